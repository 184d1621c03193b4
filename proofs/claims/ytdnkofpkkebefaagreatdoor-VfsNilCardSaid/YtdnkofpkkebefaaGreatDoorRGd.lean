/- quernref05: what each block of a geometry is; what is asked of May, All, Data. -/
import Derived.Test.YtdnkofpkkebefaaGreatDoorFine
import Derived.Test.YtdnkofpkkebefaaGreatDoorEvC
set_option linter.unusedSimpArgs false
set_option linter.unusedVariables false
set_option linter.unusedSectionVars false
set_option maxRecDepth 100000
namespace Go.Proofs.YtdnkofpkkebefaaGreatDoor
open Go.Ev
theorem tyGeo : K.types.get 28 = some ti28 := by kernel_rfl
theorem sGeo : ti28.size = 4 := rfl
theorem aGeo : ti28.agg = true := rfl
theorem fGeo0 : fieldOf K 28 0 = some (0, ti3) := by kernel_rfl
theorem fGeo1 : fieldOf K 28 1 = some (1, ti3) := by kernel_rfl
theorem fGeo2 : fieldOf K 28 2 = some (2, ti3) := by kernel_rfl
theorem geo0 (a b c d : C) : read1 4 [[a, b, c, d]] 0 = some a := rfl
theorem geo1 (a b c d : C) : read1 4 [[a, b, c, d]] 1 = some b := rfl
theorem geo2 (a b c d : C) : read1 4 [[a, b, c, d]] 2 = some c := rfl
theorem tyThing : K.types.get 98 = some ti98 := by kernel_rfl
theorem sThing : ti98.size = 4 := rfl
def thing (k gr at' ino : Int) : List C := [.int .u8 k, .int .i64 gr, .int .i64 at', .int .i64 ino]
def jrL (i : Nat) : List (List C) := [thing 1 0 0 0, thing 2 0 0 0] ++ (List.range i).map fun (j : Nat) => thing 3 0 j 0
def inL (a ino c : Nat) : List (List C) := (List.range c).map fun (k : Nat) => thing 6 a ((2 + k : Nat) : Int) ((1 + a * ino + 4 * k : Nat) : Int)
def daL (a ino d : Nat) : List (List C) := (List.range d).map fun (k : Nat) => thing 7 a ((2 + ino / 4 + k : Nat) : Int) 0
def grL (sz ino a : Nat) : List (List C) := [thing 4 a 0 0, thing 5 a 1 0] ++ inL a ino (ino / 4) ++ daL a ino (sz - (2 + ino / 4))
def groupsL (sz ino a : Nat) : List (List C) := (List.range a).flatMap (grL sz ino)
def allL (gr sz ino jr : Nat) : List (List C) := jrL jr ++ groupsL sz ino gr
theorem jrL_len (i : Nat) : (jrL i).length = 2 + i := by simp [jrL]; omega
theorem inL_len (a ino c : Nat) : (inL a ino c).length = c := by simp [inL]
theorem daL_len (a ino d : Nat) : (daL a ino d).length = d := by simp [daL]
theorem grL_len {sz ino : Nat} (h : 3 + ino / 4 ≤ sz) (a : Nat) : (grL sz ino a).length = sz := by simp [grL, inL_len, daL_len]; omega
theorem groupsL_succ (sz ino a : Nat) : groupsL sz ino (a + 1) = groupsL sz ino a ++ grL sz ino a := by simp [groupsL, List.range_succ]
theorem groupsL_len {sz ino : Nat} (h : 3 + ino / 4 ≤ sz) (a : Nat) : (groupsL sz ino a).length = a * sz := by
 induction a with
 | zero => simp [groupsL]
 | succ a ih => rw [groupsL_succ, List.length_append, ih, grL_len h, Nat.succ_mul]
theorem tyThings : K.types.get 91 = some ti91 := by kernel_rfl
theorem dThings : ti91.desc = .slice 98 := rfl
theorem fThing0 : fieldOf K 98 0 = some (0, ti5) := by kernel_rfl
theorem fThing1 : fieldOf K 98 1 = some (1, ti3) := by kernel_rfl
theorem fThing3 : fieldOf K 98 3 = some (3, ti3) := by kernel_rfl
theorem lfThings (n off len sz : Nat) : lenFits K 91 (.c (.slice n off len sz)) = true := by unfold lenFits; rw [tyThings]; rfl
def isD : List C → Bool
 | [.int _ k, .int _ a, _, _] => k == 7 && a == 0
 | _ => false
def dataN (L : List (List C)) : Nat := (L.filter isD).length
def Things (L : List (List C)) : Prop := ∀ x ∈ L, ∃ k a b c : Int, x = thing k a b c
theorem allL_things (gr sz ino jr : Nat) : Things (allL gr sz ino jr) := by
 intro l hl
 simp only [allL, jrL, groupsL, grL, inL, daL, List.mem_append, List.mem_flatMap, List.mem_map, List.mem_cons, List.not_mem_nil, or_false] at hl
 rcases hl with ((h | h) | ⟨_, _, h⟩) | ⟨_, _, ((h | h) | ⟨_, _, h⟩) | ⟨_, _, h⟩⟩ <;> subst h <;> exact ⟨_, _, _, _, rfl⟩
structure RG (gr sz ino jr : Nat) : Prop where
 may : ∀ h : Go.Ev.H, CallOk K Tryz.prog 31 [.g (geoL gr sz ino jr)] h (.w (.c (.bool true))) h
 all : ∀ h : Go.Ev.H, CallOk K Tryz.prog 32 [.g (geoL gr sz ino jr)] h (.w (.c (.slice h.next 0 (allL gr sz ino jr).length 4))) (h.new (.row 4 (allL gr sz ino jr) false))
 data : ∀ h : Go.Ev.H, CallOk K Tryz.prog 33 [.g (geoL gr sz ino jr)] h (.w (.c (.int .i64 (dataN (allL gr sz ino jr) : Nat)))) h
end Go.Proofs.YtdnkofpkkebefaaGreatDoor
