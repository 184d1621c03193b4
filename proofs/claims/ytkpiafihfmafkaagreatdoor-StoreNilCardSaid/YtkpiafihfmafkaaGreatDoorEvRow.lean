/- From the evaluator's word to a call: where crc's table is the one package-level variable. -/
import Derived.Test.YtkpiafihfmafkaaGreatDoorEvFits
import Derived.Below
import Derived.OpenShut
import Derived.MakeChecks
import Derived.ChangeArms
import Derived.FnData
namespace Go.Ev
open Go.RowKit

def isTrue : Option Out → Bool
  | some (.val (.w (.c (.bool true))) _) => true
  | _ => false
theorem isTrue_some {o : Option Out} (h : isTrue o = true) : ∃ h', o = some (.val (.w (.c (.bool true))) h') := by
  unfold isTrue at h
  split at h
  · exact ⟨_, rfl⟩
  · cases h

def steps16 : List Int := [0, 498536548, 997073096, 651767980, 1994146192, 1802195444, 1303535960, 1342533948, 3988292384, 4027552580, 3604390888, 3412177804, 2607071920, 2262029012, 2685067896, 3183342108]
/-- Memory as a call finds it: the table alone, not to be written. -/
def hBegin : H := ⟨Tree.node (some (.row 16 [[.int .u32 0, .int .u32 498536548, .int .u32 997073096, .int .u32 651767980, .int .u32 1994146192, .int .u32 1802195444, .int .u32 1303535960, .int .u32 1342533948, .int .u32 3988292384, .int .u32 4027552580, .int .u32 3604390888, .int .u32 3412177804, .int .u32 2607071920, .int .u32 2262029012, .int .u32 2685067896, .int .u32 3183342108]] true)) .nil .nil, 1⟩
def rBegin : Ren := fun n => if n = 0 then some ⟨0, 0, 16⟩ else none

theorem hBegin_get {n : Nat} {o : O} (h : hBegin.get n = some o) : n = 0 ∧ o = .row 16 [steps16.map (.int .u32)] true := by
  have h' : (Tree.node (some (O.row 16 [steps16.map (.int .u32)] true)) .nil .nil).get n = some o := h
  rw [Tree.get_node] at h'
  split at h'
  · rename_i e
    cases h'
    exact ⟨e, rfl⟩
  · split at h' <;> (rw [Tree.get_nil] at h'; cases h')

section
variable {K : Cfg} {P : Program} {W : World}

theorem rep_begin (hg : K.globs = .node (some 0) .nil .nil) {cs : Array Value} {t : TypeId} {fr : Nat × Nat} (hb : W.heap[0]? = some (.cells cs t fr)) (hcs : cs.toList = steps16.map (Value.int .u32)) : Rep K rBegin hBegin W := by
  refine ⟨fun g n h => ?_, fun n o h => ?_, fun n n' o o' l l' hne h h' _ _ => ?_⟩
  · rw [hg, Tree.get_node] at h
    split at h
    · rename_i e
      cases h
      subst e
      exact ⟨16, rfl⟩
    · split at h <;> (rw [Tree.get_nil] at h; cases h)
  · obtain ⟨rfl, rfl⟩ := hBegin_get h
    refine ⟨⟨0, 0, 16⟩, rfl, cs, t, fr, hb, ?_, fun h => (by cases h), fun x hx => ?_, fun k c hc => ?_⟩
    · rw [← Array.length_toList, hcs]
      rfl
    · simp only [List.mem_singleton] at hx
      subst hx
      rfl
    · unfold read1 at hc
      have hk : k / 16 = 0 := by
        rcases Nat.eq_zero_or_pos (k / 16) with e | e
        · exact e
        · obtain ⟨q, hq⟩ : ∃ q, k / 16 = q + 1 := ⟨k / 16 - 1, by omega⟩
          rw [hq] at hc
          simp at hc
      have hk2 : k % 16 = k := by omega
      rw [hk, hk2] at hc
      simp only [List.getElem?_cons_zero, List.getElem?_map] at hc
      cases he : steps16[k]? with
      | none => rw [he] at hc; cases hc
      | some z =>
        rw [he] at hc
        cases hc
        refine ⟨.int .u32 z, ?_, rfl⟩
        simp only [Nat.zero_add]
        rw [← Array.getElem?_toList, hcs, List.getElem?_map, he]
        rfl
  · obtain ⟨rfl, _⟩ := hBegin_get h
    obtain ⟨rfl, _⟩ := hBegin_get h'
    exact absurd rfl hne

/-- What the evaluator says true of, is called and gives true; what lay there stays. -/
theorem calls_true (F : Fits K P) (Hh : Hearts K P) (hg : K.globs = .node (some 0) .nil .nil) {cs : Array Value} {t : TypeId} {fr : Nat × Nat} (hb : W.heap[0]? = some (.cells cs t fr)) (hcs : cs.toList = steps16.map (Value.int .u32))
    {f : FuncId} {args : List Ev.W} {n : Nat} (ht : isTrue (ev K n (.call f args hBegin)) = true) {vals : List Value} (ha : All2 (ConW rBegin) args vals) :
    Calls P f vals.toArray W fun e W' => e = .returned (.bool true) ∧ Below W.heap.size W W' := by
  obtain ⟨h', he⟩ := isTrue_some ht
  have hd : Dom rBegin hBegin.next := fun n hn => by
    have : n ≠ 0 := by have : 1 ≤ n := hn; omega
    simp [rBegin, this]
  have := ((ev_sound F Hh (fun _ S => draw_ok F S) n).call f args hBegin _ h' he).2 rBegin W vals none 0 (rep_begin hg hb hcs) hd ha
  refine (callsIn_wide.1 (show CallsIn Fence.wide 0 P f vals.toArray W _ from this)).mono ?_
  rintro e W' ⟨ρ', val, rfl, aft, hv⟩
  have e : val = .bool true := hv
  subst e
  refine ⟨rfl, aft.fr.os, aft.fr.tape, aft.fr.output, aft.fr.size, fun k hk => aft.fr.keep k hk ?_⟩
  rintro ⟨m, o, l, ho, hro, _⟩
  obtain ⟨rfl, rfl⟩ := hBegin_get ho
  cases hro

/-- A row of ints, read. -/
theorem ints_of {H : Type} {enc : TypeId × Value → H} {base : Nat} {spare : Nat → Bool} {held : Bool} {fuel : Nat} {t e : TypeId} {n : Nat} {k : IntKind} {cs : List Value} {zs : List Int} {p : List MemPlace} (ht : P.underlying t = some (.array n e)) (he : P.underlying e = some (.int k)) (hc : P.cellsOf e = 1) (hct : P.cellsOf t = n)
    (h : DataW.trod enc P W base spare held fuel t cs = some (.agg (zs.map fun z => .lit (.int k z)), p)) : cs = zs.map (Value.int k) := by
  obtain ⟨xs, m, rfl, hx, hlen, hn, hel⟩ := DataW.trod_array ht h
  simp only [Prod.mk.injEq, DataW.agg.injEq] at hx
  have hzl : zs.length = n := by
    have := congrArg List.length hx.1
    simp at this
    omega
  apply List.ext_getElem?
  intro i
  rw [List.getElem?_map]
  by_cases hi : i < n
  · have h1 := hel i hi
    rw [hc, Nat.mul_one] at h1
    have hix : i < xs.length := by omega
    rw [List.getElem?_eq_getElem hix] at h1
    obtain ⟨z, e1, e2, _⟩ := DataW.trod_int he h1
    have hcs : cs[i]? = some (.int k z) := by
      have := congrArg (fun l : List Value => l[0]?) e1
      simpa [List.getElem?_take, List.getElem?_drop] using this
    have hz : zs[i]? = some z := by
      have := congrArg (fun l : List (DataW H) => l[i]?) hx.1
      simp only [List.getElem?_map, List.getElem?_eq_getElem hix, Option.map_some, e2] at this
      cases hz : zs[i]? with
      | none => rw [hz] at this; cases this
      | some y =>
        rw [hz] at this
        simp at this
        rw [this]
    rw [hcs, hz]
    rfl
  · rw [List.getElem?_eq_none (by omega), List.getElem?_eq_none (by omega)]
    rfl

/-- What the row says of the table. -/
theorem of_laid {nm : String} {t e : TypeId} (hg : P.globalNamed nm = some 0) (hgt : (P.globals[0]?).map (·.type) = some t) (ht : P.underlying t = some (.array 16 e)) (he : P.underlying e = some (.int .u32)) (hc : P.cellsOf e = 1) (hct : P.cellsOf t = 16)
    (h : laidMetH P [(nm, .agg (steps16.map fun z => .lit (.int .u32 z)))] W) : ∃ cs t fr, W.heap[0]? = some (.cells cs t fr) ∧ cs.toList = steps16.map (Value.int .u32) := by
  rw [MakeChecks.laidMetH_plain _ _ _ rfl] at h
  obtain ⟨ps, ⟨g0, t0, cs0, f0, p0, q0, hg0, ht0, hv0, hd0, _, _⟩, _, _⟩ := h
  obtain rfl := Option.some.inj (hg.symm.trans hg0)
  obtain rfl := Option.some.inj (hgt.symm.trans ht0)
  have e1 := ints_of ht he hc hct hd0
  simp only [World.var?, hg, Option.bind_some] at hv0
  split at hv0
  · rename_i cs t' fr hb
    cases hv0
    exact ⟨_, _, _, hb, e1⟩
  · cases hv0

end
end Go.Ev
