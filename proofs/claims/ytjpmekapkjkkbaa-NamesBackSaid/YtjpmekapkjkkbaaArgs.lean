/- A slice of strings that came in, as a row of names. -/
import Derived.Test.YtjpmekapkjkkbaaRefJoin
import Derived.OpenShut
namespace Go.Proofs.Ytjpmekapkjkkbaa
open Go.RowKit Go.Shelf

/-- What the walk is told of a slice of strings that came in: it is nil; or it leads to a row of cells with the strings zs (the first len are its elements). -/
def IsStrs (w : World) (a : Option Addr) (len cap : Nat) (zs : List ByteArray) : Prop :=
  (a = none ∧ len = 0 ∧ cap = 0 ∧ zs = []) ∨
  ∃ x, a = some x ∧ len ≤ cap ∧ cap ≤ maxLen ∧ zs.length = cap ∧ ∀ i, i < zs.length → w.cell? (x.add i) = some (.string (zs.getD i ByteArray.empty))

def namesOf (zs : List ByteArray) (len : Nat) : List (List UInt8) := (zs.take len).map (·.data.toList)

theorem isStrs_names {w : World} {a : Option Addr} {len cap : Nat} {zs : List ByteArray} (h : IsStrs w a len cap zs) :
    (namesOf zs len).length = len ∧ len ≤ maxLen ∧ Names w (.slice a len cap) (namesOf zs len) ∧ (a = none → len = 0 ∧ cap = 0) ∧
    (len ≠ 0 → ∃ b o, a = some ⟨b, o, none⟩ ∧ b < w.heap.size ∧ ∀ i x, (namesOf zs len)[i]? = some x → w.cell? ⟨b, o + i, none⟩ = some (S x)) := by
  rcases h with ⟨rfl, rfl, rfl, rfl⟩ | ⟨x, rfl, hl, hm, hz, hc⟩
  · exact ⟨rfl, by unfold maxLen; omega, .inl ⟨_, _, rfl, rfl⟩, fun _ => ⟨rfl, rfl⟩, fun h => absurd rfl h⟩
  · have hlen : (namesOf zs len).length = len := by
      unfold namesOf
      rw [List.length_map, List.length_take]
      omega
    by_cases h0 : len = 0
    · subst h0
      exact ⟨hlen, by omega, .inl ⟨_, _, rfl, List.length_eq_zero_iff.1 hlen⟩, fun h => (by cases h), fun h => absurd rfl h⟩
    · obtain ⟨b, o, spot⟩ := x
      have hspot : spot = none := by simpa [Addr.add] using World.cell?_spot (hc 0 (by omega))
      subst hspot
      have hcell : ∀ i y, (namesOf zs len)[i]? = some y → w.cell? ⟨b, o + i, none⟩ = some (S y) := by
        intro i y hy
        have hi : i < len := by
          have := (List.getElem?_eq_some_iff.1 hy).1
          omega
        unfold namesOf at hy
        rw [List.getElem?_map, List.getElem?_take, if_pos hi, List.getElem?_eq_getElem (by omega)] at hy
        simp at hy
        rw [← Go.WideShapes.add_plain, hc i (by omega), ← hy]
        rw [show S zs[i].data.toList = .string zs[i] from congrArg Value.string (str_eta _)]
        simp [List.getD, List.getElem?_eq_getElem (show i < zs.length by omega)]
      have hb : b < w.heap.size := by
        have := hc 0 (by omega)
        rw [Go.WideShapes.add_plain] at this
        exact cell_lt this
      refine ⟨hlen, by omega, .inr ⟨b, o, cap, by rw [hlen], by omega, hb, hcell⟩, fun h => (by cases h), fun _ => ⟨b, o, rfl, hb, hcell⟩⟩

end Go.Proofs.Ytjpmekapkjkkbaa
