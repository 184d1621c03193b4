/- crc.Sum and nums.Zero as the evaluator asks them. -/
import Derived.Test.YtdnkofpkkebefaaGreatDoorCrc
set_option linter.unusedSimpArgs false
set_option linter.unusedVariables false
set_option linter.unusedSectionVars false
set_option maxRecDepth 100000
namespace Go.Proofs.YtdnkofpkkebefaaGreatDoor
open Go.Ev
def bytesIn (off len : Nat) : Option O → Option (List Nat)
 | some (.row sz els _) => bif Nat.ble (off % sz + len) sz && Nat.blt len 4294967296 then (match readRow sz els off len with
  | some l => natsOf l
  | none => none) else none
 | _ => none
noncomputable def bytesAt (h : Go.Ev.H) : C → Option (List Nat)
 | .slice n off len 1 => bytesIn off len (h.get n)
 | _ => none
theorem bytesAt_holds {h : Go.Ev.H} {c : C} {l : List Nat} (e : bytesAt h c = some l) : Holds h c l := by
 unfold bytesAt at e
 split at e
 ·rename_i n off len
  unfold bytesIn at e
  split at e
  ·rename_i sz els ro ho
   cases hb : (Nat.ble (off % sz + len) sz && Nat.blt len 4294967296) with
   | false => rw [hb] at e; cases e
   | true =>
    rw [hb] at e
    simp only [Bool.and_eq_true] at hb
    simp only [cond_true] at e
    split at e
    ·rename_i cs hl
     obtain ⟨l1, l2⟩ := readRow_read1 hl (Nat.le_of_ble_eq_true hb.1)
     obtain ⟨n1, n2⟩ := natsOf_get e
     have hlen : l.length = len := by omega
     refine ⟨n, off, _, by rw [hlen], ho, by rw [hlen]; simpa [Nat.blt_eq] using hb.2, fun j b hj => ?_⟩
     obtain ⟨m1, m2⟩ := n2 j b hj
     refine ⟨m1, ?_⟩
     have hjl : j < len := by
      rcases Nat.lt_or_ge j l.length with h1 | h1
      ·omega
      ·rw [List.getElem?_eq_none h1] at hj; cases hj
     rw [loadIn, aByte, cond_false, l2 j hjl, m2]
     rfl
    ·cases e
  ·cases e
 ·cases e
def cellsOne : List (List C) → Option (List C)
 | [] => some []
 | [c] :: l => match cellsOne l with
  | some r => some (c :: r)
  | none => none
 | _ => none
theorem cellsOne_eq : ∀ {l : List (List C)} {r : List C}, cellsOne l = some r → l = r.map fun c => [c]
 | [], r, h => by cases h; rfl
 | [c] :: l, r, h => by
  simp only [cellsOne] at h
  split at h
  ·rename_i r' hr
   cases h
   rw [List.map_cons, ← cellsOne_eq hr]
  ·cases h
 | [] :: _, _, h => by simp [cellsOne] at h
 | (_ :: _ :: _) :: _, _, h => by simp [cellsOne] at h
noncomputable def piecesAt (h : Go.Ev.H) : List C → Option (List (List Nat))
 | [] => some []
 | c :: l => match bytesAt h c with
  | some b => (match piecesAt h l with
   | some r => some (b :: r)
   | none => none)
  | none => none
theorem piecesAt_holds {h : Go.Ev.H} : ∀ {cs : List C} {ps : List (List Nat)}, piecesAt h cs = some ps → cs.length = ps.length ∧ ∀ (j : Nat) (l : List Nat), ps[j]? = some l → ∃ c, cs[j]? = some c ∧ Holds h c l
 | [], ps, e => by
  cases e
  exact ⟨rfl, fun j l hj => by simp at hj⟩
 | c :: cs, ps, e => by
  simp only [piecesAt] at e
  split at e
  ·rename_i b hb
   split at e
   ·rename_i r hr
    cases e
    obtain ⟨h1, h2⟩ := piecesAt_holds hr
    refine ⟨by simp [h1], fun j l hj => ?_⟩
    cases j with
    | zero =>
     simp at hj
     subst hj
     exact ⟨c, rfl, bytesAt_holds hb⟩
    | succ j => exact h2 j l (by simpa using hj)
   ·cases e
  ·cases e
def isSteps : Option O → Bool
 | some (.row 16 [l] true) => (match eqInts l [.int .u32 0, .int .u32 498536548, .int .u32 997073096, .int .u32 651767980, .int .u32 1994146192, .int .u32 1802195444, .int .u32 1303535960, .int .u32 1342533948, .int .u32 3988292384, .int .u32 4027552580, .int .u32 3604390888, .int .u32 3412177804, .int .u32 2607071920, .int .u32 2262029012, .int .u32 2685067896, .int .u32 3183342108] with
  | some true => true
  | _ => false)
 | _ => false
theorem eqInts_eq : ∀ {a b : List C}, eqInts a b = some true → a = b
 | [], [], _ => rfl
 | .int k x :: a, .int k' y :: b, h => by
  simp only [eqInts] at h
  split at h
  ·rename_i hk
   subst hk
   cases hxy : (x == y) with
   | false => rw [hxy] at h; cases h
   | true =>
    rw [hxy] at h
    have : x = y := by simpa using hxy
    rw [this, eqInts_eq h]
  ·cases h
 | [], _ :: _, h => by simp [eqInts] at h
 | .int _ _ :: _, [], h => by simp [eqInts] at h
 | .bool _ :: _, _, h => by simp [eqInts] at h
 | .str _ :: _, _, h => by simp [eqInts] at h
 | .ptr _ _ :: _, _, h => by simp [eqInts] at h
 | .pnil :: _, _, h => by simp [eqInts] at h
 | .slice _ _ _ _ :: _, _, h => by simp [eqInts] at h
 | .snil :: _, _, h => by simp [eqInts] at h
 | .map _ :: _, _, h => by simp [eqInts] at h
 | .mnil :: _, _, h => by simp [eqInts] at h
 | .fn _ _ _ :: _, _, h => by simp [eqInts] at h
 | .yield _ :: _, _, h => by simp [eqInts] at h
 | .nilFn :: _, _, h => by simp [eqInts] at h
 | .int _ _ :: _, .bool _ :: _, h => by simp [eqInts] at h
 | .int _ _ :: _, .str _ :: _, h => by simp [eqInts] at h
 | .int _ _ :: _, .ptr _ _ :: _, h => by simp [eqInts] at h
 | .int _ _ :: _, .pnil :: _, h => by simp [eqInts] at h
 | .int _ _ :: _, .slice _ _ _ _ :: _, h => by simp [eqInts] at h
 | .int _ _ :: _, .snil :: _, h => by simp [eqInts] at h
 | .int _ _ :: _, .map _ :: _, h => by simp [eqInts] at h
 | .int _ _ :: _, .mnil :: _, h => by simp [eqInts] at h
 | .int _ _ :: _, .fn _ _ _ :: _, h => by simp [eqInts] at h
 | .int _ _ :: _, .yield _ :: _, h => by simp [eqInts] at h
 | .int _ _ :: _, .nilFn :: _, h => by simp [eqInts] at h
theorem isSteps_eq {o : Option O} (h : isSteps o = true) : o = some stepsO := by
 unfold isSteps at h
 split at h
 ·rename_i l
  split at h
  ·rename_i e
   rw [eqInts_eq e]
   rfl
  ·cases h
 ·cases h
def crcV (h : Go.Ev.H) : Option (List (List Nat)) → Option (V × Go.Ev.H)
 | some ps => bif Nat.blt ps.length 4294967296 then some (.w (.c (.int .u32 (Nat.xor 4294967295 (crcP ps 4294967295) : Nat))), h) else none
 | none => none
noncomputable def crcC (h : Go.Ev.H) : Option (List C) → Option (V × Go.Ev.H)
 | some cs => crcV h (piecesAt h cs)
 | none => none
noncomputable def crcR (h : Go.Ev.H) (len : Nat) : Option O → Option (V × Go.Ev.H)
 | some (.row 1 els _) => bif Nat.beq els.length len && isSteps (h.get 0) then crcC h (cellsOne els) else none
 | _ => none
noncomputable def xCrc (args : List W) (h : Go.Ev.H) : Option (V × Go.Ev.H) := match args with
 | [.c (.slice n 0 len 1)] => crcR h len (h.get n)
 | _ => none
def zeroV (h : Go.Ev.H) : Option (List Nat) → Option (V × Go.Ev.H)
 | some l => some (.w (.c (.bool (zeroN l))), h)
 | none => none
noncomputable def xZero (args : List W) (h : Go.Ev.H) : Option (V × Go.Ev.H) := match args with
 | [.c c] => zeroV h (bytesAt h c)
 | _ => none
section
variable (Hh : Hearts K Tryz.prog)
include Hh
theorem xCrc_ok {args : List W} {h h' : Go.Ev.H} {v : V} (e : xCrc args h = some (v, h')) : CallOk K Tryz.prog 235 args h v h' := by
 unfold xCrc at e
 split at e
 ·rename_i n len
  unfold crcR at e
  split at e
  ·rename_i els ro ho
   cases hb : (Nat.beq els.length len && isSteps (h.get 0)) with
   | false => rw [hb] at e; cases e
   | true =>
    rw [hb] at e
    simp only [Bool.and_eq_true] at hb
    obtain ⟨hb1, hb2⟩ := hb
    have hlen := Nat.eq_of_beq_eq_true hb1
    simp only [cond_true] at e
    unfold crcC at e
    split at e
    ·rename_i cs hcs
     unfold crcV at e
     split at e
     ·rename_i ps hps
      cases hbl : Nat.blt ps.length 4294967296 with
      | false => rw [hbl] at e; cases e
      | true =>
       rw [hbl] at e
       cases e
       obtain ⟨l1, l2⟩ := piecesAt_holds hps
       have he := cellsOne_eq hcs
       subst he
       rw [List.length_map] at hlen
       have := crcOk Hh h n cs ro ps ho (isSteps_eq hb2) l1 (by simpa [Nat.blt_eq] using hbl) l2
       rw [← l1, hlen] at this
       exact this
     ·cases e
    ·cases e
  ·cases e
 ·cases e
theorem xZero_ok {args : List W} {h h' : Go.Ev.H} {v : V} (e : xZero args h = some (v, h')) : CallOk K Tryz.prog 138 args h v h' := by
 unfold xZero at e
 split at e
 ·rename_i c
  unfold zeroV at e
  split at e
  ·rename_i l hl
   cases e
   exact zeroOk Hh h c l (bytesAt_holds hl)
  ·cases e
 ·cases e
end
end Go.Proofs.YtdnkofpkkebefaaGreatDoor
