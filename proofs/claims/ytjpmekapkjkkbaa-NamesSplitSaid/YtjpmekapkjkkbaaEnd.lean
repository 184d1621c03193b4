/- quernlaw29.NamesEnd returns true for every path: 'Rows.NamesEndSaid', with no condition. -/
import Derived.Test.YtjpmekapkjkkbaaAwake
import Derived.Test.YtjpmekapkjkkbaaPlainEnd
namespace Go.Proofs.Ytjpmekapkjkkbaa
open Go.RowKit Go.Shelf

theorem str_behind (s : ByteArray) : (s ++ ⟨#[47]⟩ : ByteArray).data.toList = s.data.toList ++ [47] := by simp
theorem str_ahead (s : ByteArray) : (⟨#[47]⟩ ++ s : ByteArray).data.toList = 47 :: s.data.toList := by simp

set_option maxHeartbeats 4000000 in
set_option maxRecDepth 100000 in
theorem end_walk (s : ByteArray) (w : World) : Calls Try.prog 9 #[.string s] w fun e w' => e = .returned (.bool true) ∧ Below w.heap.size w w' := by
  by_cases h1 : 5000 < s.size
  · have d1 : decide ((5000 : Int) < (s.size : Int)) = true := decide_eq_true (by omega)
    go_enter Try.func9, Try.ntmps9
    go_wp2_with (go_at_call 17; refine (awake_any _).mono ?_; rintro e w' ⟨rfl, hb⟩)
    go_ret
    exact ⟨rfl, hb⟩
  have d1 : decide ((5000 : Int) < (s.size : Int)) = false := decide_eq_false (by omega)
  cases hs : s.data.toList with
  | nil =>
    obtain rfl : s = ⟨#[]⟩ := data_eq.2 hs
    clear h1 hs
    go_enter Try.func9, Try.ntmps9
    go_wp2_with (go_at_call 17; refine (awake_any _).mono ?_; rintro e w' ⟨rfl, hb⟩)
    go_ret
    exact ⟨rfl, hb⟩
  | cons b l =>
    have d2 : s.toList.isEmpty = false := by rw [Lib.toList_data, hs]; rfl
    have hz : s.size = l.length + 1 := by rw [Lib.size_eq, hs]; rfl
    have hz1 : 1 ≤ s.size := by omega
    have hb0 : s[0]'hz1 = b := by
      have := Lib.data_getElem? s 0 (by omega)
      rw [hs] at this
      simpa using this.symm
    have c1 : ∀ W, ∃ n, (n ≠ 0) ∧ Calls Try.prog 14 #[.string (s ++ ⟨#[47]⟩)] W (TellsNames W [] n) := fun W => by
      have h := split_any (s ++ ⟨#[47]⟩) W
      have hb := splitR_behind (p := b :: l) (by simp)
      rw [str_behind, hs, hb.1] at h
      exact ⟨_, hb.2, h⟩
    by_cases hb : b = 47
    · subst hb
      have d3 : (((s[0]'hz1).toNat : Int) != 47) = false := by rw [hb0]; rfl
      have c2 : ∀ W, ∃ n, (n ≠ 0) ∧ Calls Try.prog 14 #[.string (⟨#[47]⟩ ++ s)] W (TellsNames W [] n) := fun W => by
        have h := split_any (⟨#[47]⟩ ++ s) W
        have hb := splitR_ahead (l := l)
        rw [str_ahead, hs, hb.1] at h
        exact ⟨_, hb.2, h⟩
      have H1 := Lib.hid c1
      have H2 := Lib.hid c2
      clear c1 c2 hz hb0 hs
      go_enter Try.func9, Try.ntmps9
      go_wp2_with (go_at_call 17; refine (awake_any _).mono ?_; rintro e w' ⟨rfl, hb⟩)
      obtain ⟨n1, hn1, k1⟩ := H1.out w'
      have e1 : (n1 != 0) = true := by rw [bne_iff_ne]; exact hn1
      refine k1.mono ?_
      rintro e w1 ⟨v, rfl, _, hv, hb1⟩
      obtain rfl := hv.2 rfl
      have HB1 := Lib.hid hb1
      clear hb1 hv k1
      go_wp2_with fail
      obtain ⟨n2, hn2, k2⟩ := H2.out w1
      have e2 : (n2 != 0) = true := by rw [bne_iff_ne]; exact hn2
      refine k2.mono ?_
      rintro e w2 ⟨v, rfl, _, hv, hb2⟩
      obtain rfl := hv.2 rfl
      clear hv k2
      go_wp2_with fail
      go_ret
      exact ⟨rfl, below_chain (below_chain hb HB1.out) hb2⟩
    · have d3 : (((s[0]'hz1).toNat : Int) != 47) = true := by
        rw [bne_iff_ne, hb0]
        intro e
        exact hb (UInt8.toNat_inj.1 (by show b.toNat = 47; omega))
      have c2 := split_any (⟨#[47]⟩ ++ s)
      have H1 := Lib.hid c1
      have H2 := Lib.hid c2
      clear c1 c2 hz hb0 hs
      go_enter Try.func9, Try.ntmps9
      go_wp2_with (go_at_call 17; refine (awake_any _).mono ?_; rintro e w' ⟨rfl, hb⟩)
      obtain ⟨n1, hn1, k1⟩ := H1.out w'
      have e1 : (n1 != 0) = true := by rw [bne_iff_ne]; exact hn1
      refine k1.mono ?_
      rintro e w1 ⟨v, rfl, _, hv, hb1⟩
      obtain rfl := hv.2 rfl
      have HB1 := Lib.hid hb1
      clear hb1 hv k1
      go_wp2_with fail
      refine (H2.out w1).mono ?_
      rintro e w2 ⟨v, rfl, _, _, hb2⟩
      go_wp2_with fail
      go_ret
      exact ⟨rfl, below_chain (below_chain hb HB1.out) hb2⟩

end Go.Proofs.Ytjpmekapkjkkbaa
