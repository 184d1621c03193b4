/- strings.Cut at a stroke: what is ahead of the first stroke, what is behind it, and whether there is one. -/
import Derived.Test.YtjpmekapkjkkbaaMayB
import Derived.IntWalk
namespace Go.Proofs.Ytjpmekapkjkkbaa
open Go.RowKit Go.Lib

theorem str_eta (s : ByteArray) : (⟨s.data.toList.toArray⟩ : ByteArray) = s := by cases s; simp

theorem extract_take (s : ByteArray) (i : Nat) : s.extract 0 i = ⟨(s.data.toList.take i).toArray⟩ := by
  rw [data_eq]; simp [ByteArray.data_extract]
theorem extract_drop (s : ByteArray) (i : Nat) : s.extract i s.size = ⟨(s.data.toList.drop i).toArray⟩ := by
  rw [data_eq]; simp [ByteArray.data_extract]
  rw [List.take_of_length_le]
  simp

set_option maxHeartbeats 2000000 in
set_option maxRecDepth 100000 in
theorem cutlite_any (s : ByteArray) (w : World) (hs : s.size ≤ 1000000) :
    Calls Try.prog 31 #[.string s, .string ⟨#[47]⟩] w fun e w' => e = .returned (.tuple #[.string ⟨(headP s.data.toList).toArray⟩, .string ⟨(restP s.data.toList).toArray⟩, .bool (moreP s.data.toList)]) ∧ ∃ n, w' = w.drewN n := by
  have hge := Lib.indexByte_ge s.data.toList 47
  by_cases hm : Lib.indexByte s.data.toList 47 = -1
  · obtain ⟨e1, e2, e3⟩ := cut_miss hm
    rw [e1, e2, e3, str_eta]
    clear e1 e2 e3 hge
    go_enter Try.func31, Try.ntmps31
    go_wp2_with (go_at_call 38; refine (Try.stringslite_Index_one _ _ _).mono ?_; rintro e w' ⟨rfl, rfl⟩; rw [hm])
    go_ret3
    exact ⟨rfl, 0, rfl⟩
  · obtain ⟨i, hi⟩ : ∃ i : Nat, Lib.indexByte s.data.toList 47 = i := ⟨(Lib.indexByte s.data.toList 47).toNat, by omega⟩
    obtain ⟨e1, e2, e3, hlt⟩ := cut_hit hi
    rw [e1, e2, e3, ← extract_take, ← extract_drop]
    have hl := Lib.size_eq s
    have c1 : (0 : Int) ≤ ↑i := by omega
    have c2 : (↑i : Int) ≤ ↑s.size := by omega
    have c3 : (0 : Int) ≤ ↑i + 1 := by omega
    have c4 : (↑i + 1 : Int) ≤ ↑s.size := by omega
    clear e1 e2 e3 hm hge hlt hl
    go_enter Try.func31, Try.ntmps31
    go_wp2_with (go_at_call 38; refine (Try.stringslite_Index_one _ _ _).mono ?_; rintro e w' ⟨rfl, rfl⟩; rw [hi])
    have k1 : IntKind.i64.wrap ((i : Int) + 1) = (i : Int) + 1 := IntWalk.i64_in _ (by omega)
    have k2 : ((i : Int) + 1).toNat = i + 1 := by omega
    go_quiet (fail)
    go_wp2_with fail
    go_ret3
    exact ⟨rfl, _, rfl⟩

set_option maxHeartbeats 1000000 in
theorem cut_any (s : ByteArray) (w : World) (hs : s.size ≤ 1000000) :
    Calls Try.prog 27 #[.string s, .string ⟨#[47]⟩] w fun e w' => e = .returned (.tuple #[.string ⟨(headP s.data.toList).toArray⟩, .string ⟨(restP s.data.toList).toArray⟩, .bool (moreP s.data.toList)]) ∧ ∃ n, w' = w.drewN n := by
  go_enter Try.func27, Try.ntmps27
  go_wp2_with (go_at_call 31; refine (cutlite_any _ _ hs).mono ?_; rintro e w' ⟨rfl, n, rfl⟩)
  go_ret3
  exact ⟨rfl, n, rfl⟩

end Go.Proofs.Ytjpmekapkjkkbaa
