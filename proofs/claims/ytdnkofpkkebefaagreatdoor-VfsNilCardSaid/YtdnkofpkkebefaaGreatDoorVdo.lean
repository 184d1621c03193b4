/- vfs.ways: its map of functions. -/
import Derived.Test.YtdnkofpkkebefaaGreatDoorTy
import Derived.Test.YtdnkofpkkebefaaGreatDoorEvC
set_option linter.unusedSimpArgs false
set_option linter.unusedVariables false
set_option linter.unusedSectionVars false
set_option maxRecDepth 100000
set_option maxHeartbeats 4000000
namespace Go.Proofs.YtdnkofpkkebefaaGreatDoor
open Go.Ev Go.RowKit
theorem ty5 : K.types.get 5 = some ti5 := by kernel_rfl
theorem sz5 : ti5.size = 1 := by rfl
theorem ag5 : ti5.agg = false := by rfl
theorem de5 : ti5.desc = (.int .u8) := by rfl
theorem ze5 : ti5.zero = (.c (.int .u8 0)) := by rfl
theorem by5 : ti5.bytes = 1 := by rfl
theorem ke5 (k : IntKind) (n : Int) : keyT K 20 5 (.c (.int k n)) = true := by kernel_rfl
theorem ty66 : K.types.get 66 = some ti66 := by kernel_rfl
theorem sz66 : ti66.size = 1 := by rfl
theorem ag66 : ti66.agg = false := by rfl
theorem ty68 : K.types.get 68 = some ti68 := by kernel_rfl
theorem sz68 : ti68.size = 1 := by rfl
theorem ag68 : ti68.agg = false := by rfl
theorem de68 : ti68.desc = (.map 5 66) := by rfl
theorem ze68 : ti68.zero = (.c (.mnil)) := by rfl
theorem by68 : ti68.bytes = 8 := by rfl
theorem mp68 : mapTI K 68 = some (5, 66) := by kernel_rfl
attribute [go_sem] ty5 sz5 ag5 de5 ze5 by5 ke5 ty66 sz66 ag66 ty68 sz68 ag68 de68 ze68 by68 mp68
noncomputable def q18 (p : List Nat) : Code := piece p (bodyOf Tryz.f18)
theorem rs18 : Tryz.f18.results.toList = [.tmp 0] := rfl
attribute [go_sem] rs18
theorem isOp_of {c : Code} {i : Nat} {op : Op} {d : Option Tmp} (a : (opN c i).op = op) (b : (opN c i).dst = d) (e : (opN c i).guard = none) : IsOp c i op d := ⟨a, b, e⟩
theorem waysCode : WaysSeq Tryz.f18 (q18 []) (q18 [0]) (q18 [1,0]) 68 where
 hb := by kernel_rfl
 hn := by kernel_rfl
 hres := by kernel_rfl
 e := by kernel_rfl
 e0 := by kernel_rfl
 l0 := by kernel_rfl
 a0 := isOp_of (by kernel_rfl) (by kernel_rfl) (by kernel_rfl)
 e1 := by kernel_rfl
 l1 := by kernel_rfl
 m0 := isOp_of (by kernel_rfl) (by kernel_rfl) (by kernel_rfl)
 ins := by kernel_rfl
 mv := isOp_of (by kernel_rfl) (by kernel_rfl) (by kernel_rfl)
 av := isOp_of (by kernel_rfl) (by kernel_rfl) (by kernel_rfl)
theorem waysOnce : onceB (q18 [1,0]) = true := by kernel_rfl
theorem mapTI68 : mapTI K 68 = some (5, 66) := by kernel_rfl
theorem keyT5 (k : Int) : keyT K 20 5 (.c (.int .u8 k)) = true := by
 have e1 : K.types.get 5 = some ti5 := by kernel_rfl
 simp only [keyT, e1]
 rfl
noncomputable def wayLs : List (W × W) := [(1, 41), (2, 42), (3, 43), (4, 44), (5, 45), (6, 46), (7, 47), (8, 48), (9, 49), (10, 50), (11, 51), (12, 52), (13, 53), (14, 54), (15, 55), (16, 56), (20, 57), (21, 58), (22, 59), (23, 60)].map fnW
theorem wayLs_eq : (wayL (q18 [1,0])).map fnW = wayLs := by kernel_rfl
noncomputable def xWays (args : List W) (h : Go.Ev.H) : Option (V × Go.Ev.H) := match args with
 | [] => some (.w (.c (.map h.next)), h.new (.map wayLs))
 | _ => none
theorem xWays_ok {args : List W} {h h' : Go.Ev.H} {v : V} (e : xWays args h = some (v, h')) : CallOk K Tryz.prog 18 args h v h' := by
 unfold xWays at e
 split at e
 ·cases e
  have := waysSeq_ok (h := h) (tM := 68) (fn := Tryz.f18) fits waysCode mapTI68 keyT5 waysOnce (f := 18) (by kernel_rfl)
  rw [wayLs_eq] at this
  exact this
 ·cases e
end Go.Proofs.YtdnkofpkkebefaaGreatDoor
