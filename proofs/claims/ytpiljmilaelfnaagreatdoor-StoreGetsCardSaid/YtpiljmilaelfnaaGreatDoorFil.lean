/- quernlaw03.Fill: a block that bears a number. -/
import Derived.Test.YtpiljmilaelfnaaGreatDoorTy
import Derived.Test.YtpiljmilaelfnaaGreatDoorEvC
set_option linter.unusedSimpArgs false
set_option linter.unusedVariables false
set_option linter.unusedSectionVars false
set_option maxRecDepth 100000
namespace Go.Proofs.YtpiljmilaelfnaaGreatDoor
open Go.Ev
theorem ty3 : K.types.get 3 = some ti3 := by kernel_rfl
theorem sz3 : ti3.size = 1 := by rfl
theorem ag3 : ti3.agg = false := by rfl
theorem de3 : ti3.desc = (.int .i64) := by rfl
theorem ze3 : ti3.zero = (.c (.int .i64 0)) := by rfl
theorem by3 : ti3.bytes = 8 := by rfl
theorem ke3 (k : IntKind) (n : Int) : keyT K 20 3 (.c (.int k n)) = true := by kernel_rfl
theorem ty5 : K.types.get 5 = some ti5 := by kernel_rfl
theorem sz5 : ti5.size = 1 := by rfl
theorem ag5 : ti5.agg = false := by rfl
theorem de5 : ti5.desc = (.int .u8) := by rfl
theorem ze5 : ti5.zero = (.c (.int .u8 0)) := by rfl
theorem by5 : ti5.bytes = 1 := by rfl
theorem ke5 (k : IntKind) (n : Int) : keyT K 20 5 (.c (.int k n)) = true := by kernel_rfl
theorem ty33 : K.types.get 33 = some ti33 := by kernel_rfl
theorem sz33 : ti33.size = 1 := by rfl
theorem ag33 : ti33.agg = false := by rfl
theorem de33 : ti33.desc = (.int .u32) := by rfl
theorem ze33 : ti33.zero = (.c (.int .u32 0)) := by rfl
theorem by33 : ti33.bytes = 4 := by rfl
theorem ke33 (k : IntKind) (n : Int) : keyT K 20 33 (.c (.int k n)) = true := by kernel_rfl
theorem ty38 : K.types.get 38 = some ti38 := by kernel_rfl
theorem sz38 : ti38.size = 256 := by rfl
theorem ag38 : ti38.agg = true := by rfl
theorem de38 : ti38.desc = (.array 256 5) := by rfl
theorem ze38 : ti38.zero = (.g ((List.replicate 256 (.int .u8 0)))) := by rfl
theorem by38 : ti38.bytes = 256 := by rfl
theorem eq38 (a b : List C) : eqT K 20 38 (.g a) (.g b) = (bif true && Nat.beq a.length 256 && Nat.beq b.length 256 then eqInts a b else none) := by kernel_rfl
theorem ty68 : K.types.get 68 = some ti68 := by kernel_rfl
theorem sz68 : ti68.size = 1 := by rfl
theorem ag68 : ti68.agg = false := by rfl
theorem de68 : ti68.desc = (.int .u64) := by rfl
theorem ze68 : ti68.zero = (.c (.int .u64 0)) := by rfl
theorem by68 : ti68.bytes = 8 := by rfl
theorem ke68 (k : IntKind) (n : Int) : keyT K 20 68 (.c (.int k n)) = true := by kernel_rfl
attribute [go_sem] ty3 sz3 ag3 de3 ze3 by3 ke3 ty5 sz5 ag5 de5 ze5 by5 ke5 ty33 sz33 ag33 de33 ze33 by33 ke33 ty38 sz38 ag38 de38 ze38 by38 eq38 ty68 sz68 ag68 de68 ze68 by68 ke68
noncomputable def q8 (p : List Nat) : Code := piece p (bodyOf Tryz.f8)
theorem q8_ : q8 [] = .seq (q8 [0]) (q8 [1]) := by kernel_rfl
theorem q8_0 : q8 [0] = .region 0 (opsA (q8 [0])) false := by kernel_rfl
theorem q8_1 : q8 [1] = .seq (q8 [1,0]) (q8 [1,1]) := by kernel_rfl
theorem q8_10 : q8 [1,0] = .region 1 (opsA (q8 [1,0])) false := by kernel_rfl
theorem q8_11 : q8 [1,1] = .seq (q8 [1,1,0]) (q8 [1,1,1]) := by kernel_rfl
theorem q8_110 : q8 [1,1,0] = .seq (q8 [1,1,0,0]) (q8 [1,1,0,1]) := by kernel_rfl
theorem q8_1100 : q8 [1,1,0,0] = .region 2 (opsA (q8 [1,1,0,0])) false := by kernel_rfl
theorem q8_1101 : q8 [1,1,0,1] = .block 0 (q8 [1,1,0,1,2]) := by kernel_rfl
theorem q8_11012 : q8 [1,1,0,1,2] = .loop (q8 [1,1,0,1,2,2]) := by kernel_rfl
theorem q8_110122 : q8 [1,1,0,1,2,2] = .seq (q8 [1,1,0,1,2,2,0]) (q8 [1,1,0,1,2,2,1]) := by kernel_rfl
theorem q8_1101220 : q8 [1,1,0,1,2,2,0] = .seq (q8 [1,1,0,1,2,2,0,0]) (q8 [1,1,0,1,2,2,0,1]) := by kernel_rfl
theorem q8_11012200 : q8 [1,1,0,1,2,2,0,0] = .region 3 (opsA (q8 [1,1,0,1,2,2,0,0])) false := by kernel_rfl
theorem q8_11012201 : q8 [1,1,0,1,2,2,0,1] = .cond (.tmp 6) (q8 [1,1,0,1,2,2,0,1,3]) (q8 [1,1,0,1,2,2,0,1,4]) := by kernel_rfl
theorem q8_110122013 : q8 [1,1,0,1,2,2,0,1,3] = .skip := by kernel_rfl
theorem q8_110122014 : q8 [1,1,0,1,2,2,0,1,4] = .exit 0 := by kernel_rfl
theorem q8_1101221 : q8 [1,1,0,1,2,2,1] = .seq (q8 [1,1,0,1,2,2,1,0]) (q8 [1,1,0,1,2,2,1,1]) := by kernel_rfl
theorem q8_11012210 : q8 [1,1,0,1,2,2,1,0] = .block 1 (q8 [1,1,0,1,2,2,1,0,2]) := by kernel_rfl
theorem q8_110122102 : q8 [1,1,0,1,2,2,1,0,2] = .region 5 (opsA (q8 [1,1,0,1,2,2,1,0,2])) false := by kernel_rfl
theorem q8_11012211 : q8 [1,1,0,1,2,2,1,1] = .region 4 (opsA (q8 [1,1,0,1,2,2,1,1])) false := by kernel_rfl
theorem q8_111 : q8 [1,1,1] = .seq (q8 [1,1,1,0]) (q8 [1,1,1,1]) := by kernel_rfl
theorem q8_1110 : q8 [1,1,1,0] = .region 6 (opsA (q8 [1,1,1,0])) false := by kernel_rfl
theorem q8_1111 : q8 [1,1,1,1] = .seq (q8 [1,1,1,1,0]) (q8 [1,1,1,1,1]) := by kernel_rfl
theorem q8_11110 : q8 [1,1,1,1,0] = .region 7 (opsA (q8 [1,1,1,1,0])) false := by kernel_rfl
theorem q8_11111 : q8 [1,1,1,1,1] = .ret := by kernel_rfl
theorem rs8 : Tryz.f8.results.toList = [.cell 2 38] := rfl
attribute [go_sem] rs8
def fillB (n : Nat) : List C := [.int .u8 ((n % 256 : Nat) : Int), .int .u8 ((n / 256 % 256 : Nat) : Int), .int .u8 ((n / 65536 % 256 : Nat) : Int), .int .u8 ((n / 16777216 % 256 : Nat) : Int)] ++ List.replicate 251 (.int .u8 0) ++ [.int .u8 ((n % 256 : Nat) : Int)]
theorem fillB_len (n : Nat) : (fillB n).length = 256 := by
 simp only [fillB, List.length_append, List.length_replicate, List.length_cons, List.length_nil]
theorem fillB_flat (n : Nat) : (fillB n).all C.flat = true := by
 simp only [fillB, List.all_append, List.all_cons, List.all_nil, List.all_replicate]
 rfl
theorem fillB_set (n : Nat) : (((((List.replicate 256 (C.int .u8 0)).set 0 (.int .u8 ((n % 256 : Nat) : Int))).set 1 (.int .u8 ((n / 256 % 256 : Nat) : Int))).set 2 (.int .u8 ((n / 65536 % 256 : Nat) : Int))).set 3 (.int .u8 ((n / 16777216 % 256 : Nat) : Int))).set 255 (.int .u8 ((n % 256 : Nat) : Int)) = fillB n := by kernel_rfl
theorem shr0 (n : Nat) : opShr .u32 (n : Int) 0 = some (.int .u32 ((n : Nat) : Int)) := by
 show some (C.int .u32 ((n : Int).fdiv (2 ^ 0))) = _
 rw [Int.pow_zero, Int.fdiv_one]
theorem shr8 (n : Nat) : opShr .u32 (n : Int) 8 = some (.int .u32 ((n / 256 : Nat) : Int)) := by
 show some (C.int .u32 ((n : Int).fdiv (((256 : Nat)) : Int))) = _
 rw [Int.ofNat_fdiv]
theorem shr16 (n : Nat) : opShr .u32 (n : Int) 16 = some (.int .u32 ((n / 65536 : Nat) : Int)) := by
 show some (C.int .u32 ((n : Int).fdiv (((65536 : Nat)) : Int))) = _
 rw [Int.ofNat_fdiv]
theorem shr24 (n : Nat) : opShr .u32 (n : Int) 24 = some (.int .u32 ((n / 16777216 : Nat) : Int)) := by
 show some (C.int .u32 ((n : Int).fdiv (((16777216 : Nat)) : Int))) = _
 rw [Int.ofNat_fdiv]
theorem wb (n : Nat) : wrapC .u8 (n : Int) = .int .u8 ((n % 256 : Nat) : Int) := by rw [wrapU8]; rfl
section
variable (Hh : Hearts K Tryz.prog)
include Hh
noncomputable def xFill : Kn1 := fun args h => match args with
 | [.c (.int .u32 z)] => askB (decide (0 ≤ z)) (some (.w (.g (fillB z.toNat)), h))
 | _ => none
theorem xFill_ok {args : List W} {h h' : Go.Ev.H} {v : V} (e : xFill args h = some (v, h')) : CallOk K Tryz.prog 8 args h v h' := by
 unfold xFill at e
 split at e
 ·rename_i z
  obtain ⟨b, e⟩ := askB_some.1 e
  have z0 := of_decide_eq_true b
  obtain ⟨n, rfl⟩ := Int.eq_ofNat_of_zero_le z0
  rw [Int.toNat_natCast] at e
  cases e
  have s0 := shr0 n
  have s8 := shr8 n
  have s16 := shr16 n
  have s24 := shr24 n
  have fb := fillB_set n
  have fl := fillB_len n
  obtain ⟨v, h', c, rfl, hk⟩ : ∃ v h', CallOk K Tryz.prog 8 [.c (.int .u32 (n : Int))] h v h' ∧ v = .w (.g (fillB n)) ∧ ∀ j, j < h.next → h'.get j = h.get j := by
   refine CallOk.goesE fits Hh (by kernel_rfl) (by kernel_rfl) (by kernel_rfl) (show Tryz.f8.body = some (q8 []) by kernel_rfl) rfl ?_
   show Goes K Tryz.prog 21 none _ _ _ _ _
   refine Goes.seqQ q8_ ?_
   refine Goes.opsQ q8_0 fits Hh E0_sound (by
    simp (maxSteps := 999999) +decide (discharger := first | omega | (simp only [lens] <;> omega) | decide) only [go_sem, q8, Tryz.f8, readRow, loadIn, simprocAttr, s0, wb, writeRow]
    rfl) ?_
   refine Goes.seqQ q8_1 ?_
   refine Goes.opsQ q8_10 fits Hh E0_sound (by
    simp (maxSteps := 999999) +decide (discharger := first | omega | (simp only [lens] <;> omega) | decide) only [go_sem, q8, Tryz.f8, readRow, loadIn, simprocAttr, s0, wb, writeRow]
    rfl) ?_
   refine Goes.seqQ q8_11 ?_
   refine Goes.seqQ q8_110 ?_
   refine Goes.opsQ q8_1100 fits Hh E0_sound (by
    simp (maxSteps := 999999) +decide (discharger := first | omega | (simp only [lens] <;> omega) | decide) only [go_sem, q8, Tryz.f8, readRow, loadIn, simprocAttr, s0, wb, writeRow]
    rfl) ?_
   refine Goes.blockQ q8_1101 (Goes.block ?_)
   refine Goes.loopQ q8_11012 (Goes.loop ?_)
   refine Goes.seqQ q8_110122 ?_
   refine Goes.seqQ q8_1101220 ?_
   refine Goes.opsQ q8_11012200 fits Hh E0_sound (by
    simp (maxSteps := 999999) +decide (discharger := first | omega | (simp only [lens] <;> omega) | decide) only [go_sem, q8, Tryz.f8, readRow, loadIn, simprocAttr, s0, wb, writeRow]
    rfl) ?_
   refine Goes.condTQ q8_11012201 (by simp (maxSteps := 999999) +decide (discharger := first | omega | (simp only [lens] <;> omega) | decide) only [go_sem, readRow, loadIn, simprocAttr, s0, wb, writeRow] <;> rfl) (by first | rfl | assumption | exact decide_eq_true (by omega) | (simp; omega)) ?_
   refine Goes.skipQ q8_110122013 ?_
   refine Goes.seqQ q8_1101221 ?_
   refine Goes.blockQ q8_11012210 (Goes.block ?_)
   refine Goes.opsQ q8_110122102 fits Hh E0_sound (by
    simp (maxSteps := 999999) +decide (discharger := first | omega | (simp only [lens] <;> omega) | decide) only [go_sem, q8, Tryz.f8, readRow, loadIn, simprocAttr, s0, wb, writeRow]
    rfl) ?_
   refine Goes.opsQ q8_11012211 fits Hh E0_sound (by
    simp (maxSteps := 999999) +decide (discharger := first | omega | (simp only [lens] <;> omega) | decide) only [go_sem, q8, Tryz.f8, readRow, loadIn, simprocAttr, s0, wb, writeRow]
    rfl) ?_
   show Goes K Tryz.prog 21 none (.loop (q8 [1,1,0,1,2,2])) _ _ _ _
   rw [← q8_11012]
   refine Goes.loopQ q8_11012 (Goes.loop ?_)
   refine Goes.seqQ q8_110122 ?_
   refine Goes.seqQ q8_1101220 ?_
   refine Goes.opsQ q8_11012200 fits Hh E0_sound (by
    simp (maxSteps := 999999) +decide (discharger := first | omega | (simp only [lens] <;> omega) | decide) only [go_sem, q8, Tryz.f8, readRow, loadIn, simprocAttr, s8, wb, writeRow]
    rfl) ?_
   refine Goes.condTQ q8_11012201 (by simp (maxSteps := 999999) +decide (discharger := first | omega | (simp only [lens] <;> omega) | decide) only [go_sem, readRow, loadIn, simprocAttr, s8, wb, writeRow] <;> rfl) (by first | rfl | assumption | exact decide_eq_true (by omega) | (simp; omega)) ?_
   refine Goes.skipQ q8_110122013 ?_
   refine Goes.seqQ q8_1101221 ?_
   refine Goes.blockQ q8_11012210 (Goes.block ?_)
   refine Goes.opsQ q8_110122102 fits Hh E0_sound (by
    simp (maxSteps := 999999) +decide (discharger := first | omega | (simp only [lens] <;> omega) | decide) only [go_sem, q8, Tryz.f8, readRow, loadIn, simprocAttr, s8, wb, writeRow]
    rfl) ?_
   refine Goes.opsQ q8_11012211 fits Hh E0_sound (by
    simp (maxSteps := 999999) +decide (discharger := first | omega | (simp only [lens] <;> omega) | decide) only [go_sem, q8, Tryz.f8, readRow, loadIn, simprocAttr, s8, wb, writeRow]
    rfl) ?_
   show Goes K Tryz.prog 21 none (.loop (q8 [1,1,0,1,2,2])) _ _ _ _
   rw [← q8_11012]
   refine Goes.loopQ q8_11012 (Goes.loop ?_)
   refine Goes.seqQ q8_110122 ?_
   refine Goes.seqQ q8_1101220 ?_
   refine Goes.opsQ q8_11012200 fits Hh E0_sound (by
    simp (maxSteps := 999999) +decide (discharger := first | omega | (simp only [lens] <;> omega) | decide) only [go_sem, q8, Tryz.f8, readRow, loadIn, simprocAttr, s16, wb, writeRow]
    rfl) ?_
   refine Goes.condTQ q8_11012201 (by simp (maxSteps := 999999) +decide (discharger := first | omega | (simp only [lens] <;> omega) | decide) only [go_sem, readRow, loadIn, simprocAttr, s16, wb, writeRow] <;> rfl) (by first | rfl | assumption | exact decide_eq_true (by omega) | (simp; omega)) ?_
   refine Goes.skipQ q8_110122013 ?_
   refine Goes.seqQ q8_1101221 ?_
   refine Goes.blockQ q8_11012210 (Goes.block ?_)
   refine Goes.opsQ q8_110122102 fits Hh E0_sound (by
    simp (maxSteps := 999999) +decide (discharger := first | omega | (simp only [lens] <;> omega) | decide) only [go_sem, q8, Tryz.f8, readRow, loadIn, simprocAttr, s16, wb, writeRow]
    rfl) ?_
   refine Goes.opsQ q8_11012211 fits Hh E0_sound (by
    simp (maxSteps := 999999) +decide (discharger := first | omega | (simp only [lens] <;> omega) | decide) only [go_sem, q8, Tryz.f8, readRow, loadIn, simprocAttr, s16, wb, writeRow]
    rfl) ?_
   show Goes K Tryz.prog 21 none (.loop (q8 [1,1,0,1,2,2])) _ _ _ _
   rw [← q8_11012]
   refine Goes.loopQ q8_11012 (Goes.loop ?_)
   refine Goes.seqQ q8_110122 ?_
   refine Goes.seqQ q8_1101220 ?_
   refine Goes.opsQ q8_11012200 fits Hh E0_sound (by
    simp (maxSteps := 999999) +decide (discharger := first | omega | (simp only [lens] <;> omega) | decide) only [go_sem, q8, Tryz.f8, readRow, loadIn, simprocAttr, s24, wb, writeRow]
    rfl) ?_
   refine Goes.condTQ q8_11012201 (by simp (maxSteps := 999999) +decide (discharger := first | omega | (simp only [lens] <;> omega) | decide) only [go_sem, readRow, loadIn, simprocAttr, s24, wb, writeRow] <;> rfl) (by first | rfl | assumption | exact decide_eq_true (by omega) | (simp; omega)) ?_
   refine Goes.skipQ q8_110122013 ?_
   refine Goes.seqQ q8_1101221 ?_
   refine Goes.blockQ q8_11012210 (Goes.block ?_)
   refine Goes.opsQ q8_110122102 fits Hh E0_sound (by
    simp (maxSteps := 999999) +decide (discharger := first | omega | (simp only [lens] <;> omega) | decide) only [go_sem, q8, Tryz.f8, readRow, loadIn, simprocAttr, s24, wb, writeRow]
    rfl) ?_
   refine Goes.opsQ q8_11012211 fits Hh E0_sound (by
    simp (maxSteps := 999999) +decide (discharger := first | omega | (simp only [lens] <;> omega) | decide) only [go_sem, q8, Tryz.f8, readRow, loadIn, simprocAttr, s24, wb, writeRow]
    rfl) ?_
   show Goes K Tryz.prog 21 none (.loop (q8 [1,1,0,1,2,2])) _ _ _ _
   rw [← q8_11012]
   refine Goes.loopQ q8_11012 (Goes.loop ?_)
   refine Goes.seqQ q8_110122 ?_
   refine Goes.seqQ q8_1101220 ?_
   refine Goes.opsQ q8_11012200 fits Hh E0_sound (by
    simp (maxSteps := 999999) +decide (discharger := first | omega | (simp only [lens] <;> omega) | decide) only [go_sem, q8, Tryz.f8, loadIn, simprocAttr, wb, fb, fl, writeRow]
    rfl) ?_
   refine Goes.condFQ q8_11012201 (by simp (maxSteps := 999999) +decide (discharger := first | omega | (simp only [lens] <;> omega) | decide) only [go_sem, loadIn, simprocAttr, wb, fb, fl, writeRow] <;> rfl) (by first | rfl | assumption | exact decide_eq_false (by omega) | (simp; omega)) ?_
   refine Goes.exitQ q8_110122014 ?_
   refine Goes.seqQ q8_111 ?_
   refine Goes.opsQ q8_1110 fits Hh E0_sound (by
    simp (maxSteps := 999999) +decide (discharger := first | omega | (simp only [lens] <;> omega) | decide) only [go_sem, q8, Tryz.f8, loadIn, simprocAttr, wb, fb, fl, writeRow]
    rfl) ?_
   refine Goes.seqQ q8_1111 ?_
   refine Goes.opsQ q8_11110 fits Hh E0_sound (by
    simp (maxSteps := 999999) +decide (discharger := first | omega | (simp only [lens] <;> omega) | decide) only [go_sem, q8, Tryz.f8, loadIn, simprocAttr, wb, fb, fl, writeRow]
    rfl) ?_
   refine Goes.retQ q8_11111 ?_
   exact ⟨_, _, (by simp (maxSteps := 999999) +decide (discharger := first | omega | (simp only [lens] <;> omega) | decide) only [go_sem, loadIn, simprocAttr, fb, fl] <;> rfl), rfl, fun j hj => by (first | (simp (discharger := omega) only [H.get_put, H.get_new, H.get_del, H.next_new, H.next_put, H.next_del, if_neg]; done) | (simp only [H.get_put, H.get_new, H.get_del, H.next_new, H.next_put, H.next_del]; (repeat' split) <;> first | rfl | (exfalso; omega) | omega))⟩
  exact c.quiet (by show (fillB n).all C.flat = true; exact fillB_flat n) hk
 ·cases e
end
attribute [go_sem] xFill
end Go.Proofs.YtpiljmilaelfnaaGreatDoor
