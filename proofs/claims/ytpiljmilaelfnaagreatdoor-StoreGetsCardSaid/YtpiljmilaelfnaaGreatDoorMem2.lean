/- What the store's calls make of that memory. -/
import Derived.Test.YtpiljmilaelfnaaGreatDoorGud
import Derived.Test.YtpiljmilaelfnaaGreatDoorSto3
import Derived.Test.YtpiljmilaelfnaaGreatDoorSto4
set_option linter.unusedSimpArgs false
set_option linter.unusedVariables false
set_option linter.unusedSectionVars false
set_option maxRecDepth 100000
namespace Go.Proofs.YtpiljmilaelfnaaGreatDoor
open Go.Ev
section
variable {n a b c e : Nat} {md : Int} {kn : Bool} {ld lt lc : Ents} {L : List (List C)} {h : Go.Ev.H}
theorem Mem.xData (M : Mem n a b c e md kn ld lt lc L h) (fb : fineB a b c e = true) (hmd : ¬md = 3) {z : Int} (hz : oursB a b c e z = true) (z1 : z < 9223372036854775808) {x : List C} (xl : x.length = 256) (xf : x.all C.flat = true) (fd : flatE ld = true) : xSPutData [.c (.ptr (n + 13) 0), .c (.int .i64 z), .g x] h = some (.w (.c (.int .i64 0)), h.put (n + 23) (.map (ents (updE z (.int .i64 z :: x) ld)))) := by
 obtain ⟨⟨f0, f1, f2, f3, f4, f5, f6, f7, f8, f9, f10, f11, f12, f13⟩, g1, g2, g3, g4, g5⟩ := M
 have dm : decide (md = 3) = false := decide_eq_false hmd
 unfold xSPutData
 simp (maxSteps := 999999) +decide (discharger := first | omega | (simp only [lens] <;> omega) | decide) only [go_sem, readRow, loadIn, simprocAttr, g1, stN, f2, txN, f3, gdL, gdN, g2, fb, hz, dm, xl, xf, fd] <;> rfl
theorem Mem.xTx (M : Mem n a b c e md kn ld lt lc L h) {z : Int} (z0 : 0 ≤ z) {x : List C} (xl : x.length = 256) (xf : x.all C.flat = true) (ft : flatE lt = true) (fc : flatE lc = true) (tk : lookE z lt = none ∨ lookE z lt = some []) (tl : lt.length < 33) : xPutIn (n + 13) (stN n kn) z x h = some (.w (.c (.int .i64 0)), putM n (updE z [] lt) (updE z x lc) h) := by
 obtain ⟨⟨f0, f1, f2, f3, f4, f5, f6, f7, f8, f9, f10, f11, f12, f13⟩, g1, g2, g3, g4, g5⟩ := M
 have tl' : decide (((lt.length : Nat) : Int) < 33) = true := decide_eq_true (by omega)
 have fn : flatE [] = true := rfl
 have dn : ents (delE z []) = [] := rfl
 unfold xPutIn xTPut
 rcases tk with tk | tk
 ·simp (maxSteps := 999999) +decide (discharger := first | omega | (simp only [lens] <;> omega) | decide) only [go_sem, readRow, loadIn, simprocAttr, g1, stN, f2, txN, g2, f8, g3, g4, f9, f11, f12, xl, xf, ft, fc, fn, tk, tl', putM, C.flat] <;> rfl
 ·simp (maxSteps := 999999) +decide (discharger := first | omega | (simp only [lens] <;> omega) | decide) only [go_sem, readRow, loadIn, simprocAttr, g1, stN, f2, txN, g2, f8, g3, g4, f9, f11, f12, xl, xf, ft, fc, fn, tk, tl', putM, C.flat] <;> rfl
theorem Mem.xPut (M : Mem n a b c e md kn ld lt lc L h) (fb : fineB a b c e = true) {z : Int} (hz : oursB a b c e z = true) (z0 : 0 ≤ z) (z1 : z < 9223372036854775808) {x : List C} (xl : x.length = 256) (xf : x.all C.flat = true) (ft : flatE lt = true) (fc : flatE lc = true) (tk : lookE z lt = none ∨ lookE z lt = some []) (tl : lt.length < 33) : xSPut [.c (.ptr (n + 13) 0), .c (.int .i64 z), .g x] h = some (.w (.c (.int .i64 0)), putM n (updE z [] lt) (updE z x lc) h) := by
 have k := M.xTx z0 xl xf ft fc tk tl
 unfold stN at k
 obtain ⟨⟨f0, f1, f2, f3, f4, f5, f6, f7, f8, f9, f10, f11, f12, f13⟩, g1, g2, g3, g4, g5⟩ := M
 unfold xSPut
 simp (maxSteps := 999999) +decide (discharger := first | omega | (simp only [lens] <;> omega) | decide) only [go_sem, readRow, loadIn, simprocAttr, g1, stN, f2, txN, f3, gdL, gdN, fb, hz, k] <;> rfl
theorem Mem.xData3 (M : Mem n a b c e md kn ld lt lc L h) (fb : fineB a b c e = true) (hmd : md = 3) {z : Int} (hz : oursB a b c e z = true) (z0 : 0 ≤ z) (z1 : z < 9223372036854775808) {x : List C} (xl : x.length = 256) (xf : x.all C.flat = true) (ft : flatE lt = true) (fc : flatE lc = true) (tk : lookE z lt = none ∨ lookE z lt = some []) (tl : lt.length < 33) : xSPutData [.c (.ptr (n + 13) 0), .c (.int .i64 z), .g x] h = some (.w (.c (.int .i64 0)), putM n (updE z [] lt) (updE z x lc) h) := by
 have k := M.xTx z0 xl xf ft fc tk tl
 unfold stN at k
 obtain ⟨⟨f0, f1, f2, f3, f4, f5, f6, f7, f8, f9, f10, f11, f12, f13⟩, g1, g2, g3, g4, g5⟩ := M
 have dm : decide (md = 3) = true := decide_eq_true hmd
 unfold xSPutData
 simp (maxSteps := 999999) +decide (discharger := first | omega | (simp only [lens] <;> omega) | decide) only [go_sem, readRow, loadIn, simprocAttr, g1, stN, f2, txN, f3, gdL, gdN, fb, hz, dm, k] <;> rfl
theorem Mem.xGetD (M : Mem n a b c e md kn ld lt lc L h) (fb : fineB a b c e = true) {z : Int} (hz : oursB a b c e z = true) (z1 : z < 9223372036854775808) {x : List C} (hl : lookE z ld = some (.int .i64 z :: x)) (xl : x.length = 256) (xf : x.all C.flat = true) : xSGet [.c (.ptr (n + 13) 0), .c (.int .i64 z)] h = some (.tup [.g x, .c (.int .i64 0)], h) := by
 obtain ⟨⟨f0, f1, f2, f3, f4, f5, f6, f7, f8, f9, f10, f11, f12, f13⟩, g1, g2, g3, g4, g5⟩ := M
 have yf : (C.int .i64 z :: x).all C.flat = true := by show (true && x.all C.flat) = true; rw [xf]; rfl
 unfold xSGet xSSeen
 simp (maxSteps := 999999) +decide (discharger := first | omega | (simp only [lens] <;> omega) | decide) only [go_sem, readRow, loadIn, simprocAttr, g1, stN, f2, txN, f3, gdL, gdN, g2, fb, hz, hl, xl, yf] <;> rfl
theorem Mem.xGetT (M : Mem n a b c e md kn ld lt lc L h) (fb : fineB a b c e = true) {z : Int} (hz : oursB a b c e z = true) (z1 : z < 9223372036854775808) {x : List C} (hd : lookE z ld = none) (hl : lookE z lc = some x) (xl : x.length = 256) (xf : x.all C.flat = true) : xSGet [.c (.ptr (n + 13) 0), .c (.int .i64 z)] h = some (.tup [.g x, .c (.int .i64 0)], h) := by
 obtain ⟨⟨f0, f1, f2, f3, f4, f5, f6, f7, f8, f9, f10, f11, f12, f13⟩, g1, g2, g3, g4, g5⟩ := M
 unfold xSGet xSSeen
 simp (maxSteps := 999999) +decide (discharger := first | omega | (simp only [lens] <;> omega) | decide) only [go_sem, readRow, loadIn, simprocAttr, g1, stN, f2, txN, f3, gdL, gdN, g2, g4, fb, hz, hd, hl, xl, xf] <;> rfl
end
end Go.Proofs.YtpiljmilaelfnaaGreatDoor
