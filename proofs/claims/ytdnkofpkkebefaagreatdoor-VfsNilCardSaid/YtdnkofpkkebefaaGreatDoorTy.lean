/- Types of the program, as the evaluator has them. -/
import Derived.Test.YtdnkofpkkebefaaGreatDoorCfg
import Derived.Test.YtdnkofpkkebefaaGreatDoorFits
import Derived.Test.YtdnkofpkkebefaaGreatDoorEvC
import Derived.KernelRfl
set_option linter.unusedSimpArgs false
set_option linter.unusedVariables false
set_option linter.unusedSectionVars false
set_option maxRecDepth 100000
namespace Go.Proofs.YtdnkofpkkebefaaGreatDoor
open Go.Ev
theorem gl : K.globs = Tree.set .nil 0 0 := by kernel_rfl
theorem tyInt : K.types.get 3 = some ti3 := by kernel_rfl
theorem sInt : ti3.size = 1 := rfl
theorem aInt : ti3.agg = false := rfl
theorem tyBool : K.types.get 4 = some ti4 := by kernel_rfl
theorem sBool : ti4.size = 1 := rfl
theorem aBool : ti4.agg = false := rfl
theorem tyByte : K.types.get 5 = some ti5 := by kernel_rfl
theorem dByte : ti5.desc = .int .u8 := rfl
theorem sByte : ti5.size = 1 := rfl
theorem aByte : ti5.agg = false := rfl
theorem tyU32 : K.types.get 75 = some ti75 := by kernel_rfl
theorem dU32 : ti75.desc = .int .u32 := rfl
theorem sU32 : ti75.size = 1 := rfl
theorem aU32 : ti75.agg = false := rfl
theorem tyBlock : K.types.get 81 = some ti81 := by kernel_rfl
theorem dBlock : ti81.desc = .array 256 5 := rfl
theorem sBlock : ti81.size = 256 := rfl
theorem aBlock : ti81.agg = true := rfl
theorem tyBools : K.types.get 96 = some ti96 := by kernel_rfl
theorem dBools : ti96.desc = .slice 4 := rfl
theorem tyBytes : K.types.get 31 = some ti31 := by kernel_rfl
theorem dBytes : ti31.desc = .slice 5 := rfl
theorem sBytes : ti31.size = 1 := rfl
theorem aBytes : ti31.agg = false := rfl
theorem tyPieces : K.types.get 418 = some ti418 := by kernel_rfl
theorem dPieces : ti418.desc = .slice 31 := rfl
theorem tySteps : K.types.get 419 = some ti419 := by kernel_rfl
theorem dSteps : ti419.desc = .array 16 75 := rfl
theorem wrapU32 {v : Nat} (h : v < 4294967296) : wrapC .u32 (v : Int) = .int .u32 (v : Int) := by
 unfold wrapC IntKind.wrap
 congr 1
 show (if (false && _) = true then _ else (v : Int) % 4294967296) = _
 simp only [Bool.false_and, Bool.false_eq_true, if_false]
 omega
theorem bitU32 {f : Nat → Nat → Nat} {a b : Nat} (ha : a < 4294967296) (hb : b < 4294967296) (hf : f a b < 4294967296) : opBit .u32 f (a : Int) (b : Int) = .int .u32 (f a b : Nat) := by
 have e1 : ((a : Int) % 2 ^ IntKind.bits .u32).toNat = a := by show ((a : Int) % 4294967296).toNat = a; omega
 have e2 : ((b : Int) % 2 ^ IntKind.bits .u32).toNat = b := by show ((b : Int) % 4294967296).toNat = b; omega
 unfold opBit
 rw [e1, e2]
 exact wrapU32 hf
theorem xorU32 {a b : Nat} (ha : a < 4294967296) (hb : b < 4294967296) : opBit .u32 Nat.xor (a : Int) (b : Int) = .int .u32 (Nat.xor a b : Nat) := bitU32 ha hb (Nat.xor_lt_two_pow (n := 32) ha hb)
theorem xor_lt {a b : Nat} (ha : a < 4294967296) (hb : b < 4294967296) : Nat.xor a b < 4294967296 := Nat.xor_lt_two_pow (n := 32) ha hb
theorem andI2 {a b : Prop} (x : a) (y : b) : a ∧ b := ⟨x, y⟩
theorem andI4 {a b c d : Prop} (x : a) (y : b) (z : c) (u : d) : a ∧ b ∧ c ∧ d := ⟨x, y, z, u⟩
theorem andI5 {a b c d e : Prop} (x : a) (y : b) (z : c) (u : d) (v : e) : a ∧ b ∧ c ∧ d ∧ e := ⟨x, y, z, u, v⟩
theorem andI6 {a b c d e f : Prop} (x : a) (y : b) (z : c) (u : d) (v : e) (w : f) : a ∧ b ∧ c ∧ d ∧ e ∧ f := ⟨x, y, z, u, v, w⟩
theorem andI7 {a b c d e f g : Prop} (x : a) (y : b) (z : c) (u : d) (v : e) (w : f) (s : g) : a ∧ b ∧ c ∧ d ∧ e ∧ f ∧ g := ⟨x, y, z, u, v, w, s⟩
theorem andI8 {a b c d e f g h : Prop} (x : a) (y : b) (z : c) (u : d) (v : e) (w : f) (s : g) (t : h) : a ∧ b ∧ c ∧ d ∧ e ∧ f ∧ g ∧ h := ⟨x, y, z, u, v, w, s, t⟩
theorem andI9 {a b c d e f g h i : Prop} (x : a) (y : b) (z : c) (u : d) (v : e) (w : f) (s : g) (t : h) (r : i) : a ∧ b ∧ c ∧ d ∧ e ∧ f ∧ g ∧ h ∧ i := ⟨x, y, z, u, v, w, s, t, r⟩
theorem callQ {f : Go.FuncId} {args : List W} {h : Go.Ev.H} {v0 : V} (fl : v0.flat = true) (x : ∃ v h', CallOk K Tryz.prog f args h v h' ∧ v = v0 ∧ ∀ m, m < h.next → h'.get m = h.get m) : CallOk K Tryz.prog f args h v0 h := by
 obtain ⟨v, h', c, rfl, q⟩ := x
 exact c.quiet fl q
section
variable (Hh : Hearts K Tryz.prog)
include Hh
theorem fnG {f : Go.FuncId} (fn : Go.Func) {body : Go.Code} {args : List W} {v : V} {h h' : Go.Ev.H} (g : Goes K Tryz.prog fn.ntmps none body [] (argTmps 0 args .nil) h fun x ds ts h1 => leave K fn (some (.at x ds ts h1)) = some (.val v h')) (hc : K.clones.contains f = false := by kernel_rfl) (hs : K.sorted.lookup f = none := by kernel_rfl) (hf : K.funcs.get f = some fn := by kernel_rfl) (hb : fn.body = some body := by exact rfl) (hn : Nat.ble args.length fn.ntmps = true := by exact rfl) : CallOk K Tryz.prog f args h v h' := CallOk.goes fits Hh hc hs hf hb hn g
theorem fnGE {f : Go.FuncId} (fn : Go.Func) {body : Go.Code} {args : List W} {h : Go.Ev.H} {R : V → Go.Ev.H → Prop} (g : Goes K Tryz.prog fn.ntmps none body [] (argTmps 0 args .nil) h fun x ds ts h1 => ∃ v h', leave K fn (some (.at x ds ts h1)) = some (.val v h') ∧ R v h') (hc : K.clones.contains f = false := by kernel_rfl) (hs : K.sorted.lookup f = none := by kernel_rfl) (hf : K.funcs.get f = some fn := by kernel_rfl) (hb : fn.body = some body := by exact rfl) (hn : Nat.ble args.length fn.ntmps = true := by exact rfl) : ∃ v h', CallOk K Tryz.prog f args h v h' ∧ R v h' := CallOk.goesE fits Hh hc hs hf hb hn g
theorem runO {n : Nat} {rd : Option Nat} {ds : List Nat} {ts ts' : Tmps} {h h' : Go.Ev.H} {Q : Go.Ev.X → List Nat → Tmps → Go.Ev.H → Prop} {id : Nat} {E : Task → Option Out} {ops : Array Go.Oper} (S : Sound K Tryz.prog E) (g : evOps K E ops.toList n ops.toList ts h = some (ts', h')) (q : Q .normal ds ts' h') : Goes K Tryz.prog n rd (.region id ops false) ds ts h Q := Goes.ops2 fits Hh S g q
theorem runD {n : Nat} {rd : Option Nat} {ds : List Nat} {ts ts' : Tmps} {h h' : Go.Ev.H} {Q : Go.Ev.X → List Nat → Tmps → Go.Ev.H → Prop} {id : Nat} {E : Task → Option Out} {ops : Array Go.Oper} (S : Sound K Tryz.prog E) (g : drEnd K ops.toList (drAll K E ops.toList n 0 ops.toList ⟨ts, h, h, [], []⟩) = some (ts', h')) (q : Q .normal ds ts' h') (st : (edgesOk 0 ops.toList && slotsOk ops.toList 0 ops.toList && chainOk ops.toList 0 none [] ops.toList) = true := by kernel_rfl) : Goes K Tryz.prog n rd (.region id ops true) ds ts h Q := Goes.drawn2 fits Hh S st g q
end
theorem autG {p : Prop} (g : p := by simp (discharger := first | omega | (simp only [lens] <;> omega)) only [go_sem]) : p := g
theorem autAar {p : Prop} (g : p := by simp (maxSteps := 999999) +decide (discharger := first | omega | (simp only [lens] <;> omega) | decide) only [go_sem, loadIn, simprocAttr, E1_call] <;> rfl) : p := g
theorem autAayJ {p : Prop} (g : p := by simp (maxSteps := 999999) +decide (discharger := first | omega | (simp only [lens] <;> omega) | decide) only [go_sem, loadIn, simprocAttr, E1_call, opBox, opBuiltin, opIndex, Jf] <;> rfl) : p := g
theorem autBar {p : Prop} (g : p := by simp (maxSteps := 999999) +decide (discharger := first | omega | (simp only [lens] <;> omega) | decide) only [go_sem, readRow, loadIn, simprocAttr, E1_call] <;> rfl) : p := g
theorem autBarJ {p : Prop} (g : p := by simp (maxSteps := 999999) +decide (discharger := first | omega | (simp only [lens] <;> omega) | decide) only [go_sem, readRow, loadIn, simprocAttr, E1_call, Jf] <;> rfl) : p := g
theorem autBarDJ {p : Prop} (g : p := by simp (maxSteps := 999999) +decide (discharger := first | omega | (simp only [lens] <;> omega) | decide) only [go_sem, readRow, loadIn, simprocAttr, E1_call, drG, Jf] <;> rfl) : p := g
theorem autBatJ {p : Prop} (g : p := by simp (maxSteps := 999999) +decide (discharger := first | omega | (simp only [lens] <;> omega) | decide) only [go_sem, readRow, loadIn, simprocAttr, E1_call, opBox, opBuiltin, opLen, Jf] <;> rfl) : p := g
theorem autBazJ {p : Prop} (g : p := by simp (maxSteps := 999999) +decide (discharger := first | omega | (simp only [lens] <;> omega) | decide) only [go_sem, readRow, loadIn, simprocAttr, E1_call, opBox, opBuiltin, ptrW, List.map_cons, List.map_nil, List.cons_append, List.nil_append, opSlice, optC, bound, cutSl, Jf] <;> rfl) : p := g
theorem autBbrJ {p : Prop} (g : p := by simp (maxSteps := 999999) +decide (discharger := first | omega | (simp only [lens] <;> omega) | decide) only [go_sem, readRow, loadIn, simprocAttr, E1_call, read1, Jf] <;> rfl) : p := g
theorem autBdrJ {p : Prop} (g : p := by simp (maxSteps := 999999) +decide (discharger := first | omega | (simp only [lens] <;> omega) | decide) only [go_sem, readRow, loadIn, simprocAttr, E1_call, read1, writeRow, Jf] <;> rfl) : p := g
end Go.Proofs.YtdnkofpkkebefaaGreatDoor
