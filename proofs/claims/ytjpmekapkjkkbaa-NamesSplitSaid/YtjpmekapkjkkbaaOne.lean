/- quernlaw29.NamesOne returns true for every name. -/
import Derived.Test.YtjpmekapkjkkbaaEnd
import Derived.Test.YtjpmekapkjkkbaaPlainOne
namespace Go.Proofs.Ytjpmekapkjkkbaa
open Go.RowKit Go.Shelf

theorem names_lit1 (W : World) (x : List UInt8) : Names (W.alloc (.cells #[S x] 9)) (.slice (some ⟨W.heap.size, 0, none⟩) 1 1) [x] := by
  refine .inr ⟨W.heap.size, 0, 1, rfl, Nat.le_refl _, by simp, fun i z hz => ?_⟩
  match i, hz with
  | 0, hz => cases hz; exact World.cell?_alloc_at _ _ _ 0 (by simp)
  | i + 1, hz => simp at hz

theorem all_take1 {l : List UInt8} {k : Nat} {x : UInt8} (h : l[k]? = some x) (p : UInt8 → Bool) : (l.take (k + 1)).all p = ((l.take k).all p && p x) := by
  rw [List.take_add_one, h, List.all_append]
  simp

set_option maxHeartbeats 4000000 in
set_option maxRecDepth 100000 in
theorem one_walk (s : ByteArray) (w : World) : Calls Try.prog 7 #[.string s] w fun e w' => e = .returned (.bool true) ∧ Below w.heap.size w w' := by
  by_cases h1 : 20000 < s.size
  · have d1 : decide ((20000 : Int) < (s.size : Int)) = true := decide_eq_true (by omega)
    go_enter Try.func7, Try.ntmps7
    go_wp2_with (go_at_call 17; refine (awake_any _).mono ?_; rintro e w' ⟨rfl, hb⟩)
    go_ret
    exact ⟨rfl, hb⟩
  have d1 : decide ((20000 : Int) < (s.size : Int)) = false := decide_eq_false (by omega)
  have hz := Lib.size_eq s
  have hm := mayB_eq s.data.toList
  have q3' : (s.toList == [46]) = (s.data.toList == [46]) := by rw [Lib.toList_data]
  have q4' : (s.toList == [46, 46]) = (s.data.toList == [46, 46]) := by rw [Lib.toList_data]
  rw [← q3', ← q4', show decide (1 ≤ s.data.toList.length) = decide ((1 : Int) ≤ (s.size : Int)) from by rw [← hz]; exact decide_eq_decide.2 (by omega), show decide (s.data.toList.length ≤ 27) = decide ((s.size : Int) ≤ 27) from by rw [← hz]; exact decide_eq_decide.2 (by omega)] at hm
  clear q3' q4'
  have HZ := Lib.hid hz
  clear hz
  have pick : (∃ F, Hid (F = false) ∧ Hid (mayB s.data.toList = (F && s.data.toList.all goodB)) ∧ decide ((1 : Int) ≤ (s.size : Int)) = false) ∨
      (∃ F, Hid (F = false) ∧ Hid (mayB s.data.toList = (F && s.data.toList.all goodB)) ∧ decide ((1 : Int) ≤ (s.size : Int)) = true ∧ decide ((s.size : Int) ≤ 27) = false) ∨
      (∃ F, Hid (F = false) ∧ Hid (mayB s.data.toList = (F && s.data.toList.all goodB)) ∧ decide ((1 : Int) ≤ (s.size : Int)) = true ∧ decide ((s.size : Int) ≤ 27) = true ∧ (s.toList == [46]) = true) ∨
      (∃ F, Hid (F = false) ∧ Hid (mayB s.data.toList = (F && s.data.toList.all goodB)) ∧ decide ((1 : Int) ≤ (s.size : Int)) = true ∧ decide ((s.size : Int) ≤ 27) = true ∧ (s.toList == [46]) = false ∧ (s.toList == [46, 46]) = true) ∨
      (∃ F, Hid (F = true) ∧ Hid (mayB s.data.toList = (F && s.data.toList.all goodB)) ∧ decide ((1 : Int) ≤ (s.size : Int)) = true ∧ decide ((s.size : Int) ≤ 27) = true ∧ (s.toList == [46]) = false ∧ (s.toList == [46, 46]) = false) := by
    cases q1 : decide ((1 : Int) ≤ (s.size : Int))
    · rw [q1, Bool.false_and] at hm
      exact .inl ⟨false, rfl, hm, rfl⟩
    rw [q1, Bool.true_and] at hm
    cases q2 : decide ((s.size : Int) ≤ 27)
    · rw [q2, Bool.false_and] at hm
      exact .inr (.inl ⟨false, rfl, hm, rfl, rfl⟩)
    rw [q2, Bool.true_and] at hm
    cases q3 : (s.toList == [46])
    case true =>
      rw [q3, Bool.not_true, Bool.false_and] at hm
      exact .inr (.inr (.inl ⟨false, rfl, hm, rfl, rfl, rfl⟩))
    rw [q3, Bool.not_false, Bool.true_and] at hm
    cases q4 : (s.toList == [46, 46])
    case true =>
      rw [q4, Bool.not_true, Bool.false_and] at hm
      exact .inr (.inr (.inr (.inl ⟨false, rfl, hm, rfl, rfl, rfl, rfl⟩)))
    · rw [q4] at hm
      exact .inr (.inr (.inr (.inr ⟨true, rfl, hm, rfl, rfl, rfl, rfl⟩)))
  have hbad : mayB s.data.toList = false → ∃ n : Int, (n == 290 || (n == 3 && decide ((512 : Int) ≤ (s.size : Int)))) = true ∧ ∀ W v, Names W v [s.data.toList] → Calls Try.prog 10 #[v] W (TellsPath W [] n) := by
    intro h
    rcases joinR_one_bad h with ⟨hj, hl⟩ | hj
    · refine ⟨3, ?_, fun W v hv => ?_⟩
      · rw [decide_eq_true (by have := HZ.out; omega)]; rfl
      · have := join_any W v _ hv (Nat.le_of_ble_eq_true rfl) (by simp; have := HZ.out; omega)
        rw [hj] at this
        exact this
    · refine ⟨290, rfl, fun W v hv => ?_⟩
      have := join_any W v _ hv (Nat.le_of_ble_eq_true rfl) (by simp; have := HZ.out; omega)
      rw [hj] at this
      exact this
  have hgood : mayB s.data.toList = true → ∀ W v, Names W v [s.data.toList] → Calls Try.prog 10 #[v] W (fun e w' => e = .returned (.tuple #[.string (⟨#[47]⟩ ++ s), .int .i64 0]) ∧ Below W.heap.size W w') := by
    intro h W v hv
    have := join_any W v _ hv (Nat.le_of_ble_eq_true rfl) (by simp; have := HZ.out; omega)
    rw [joinR_one_good h] at this
    refine this.mono ?_
    rintro e w' ⟨rfl, hb⟩
    exact ⟨by rw [show S (47 :: s.data.toList) = .string (⟨#[47]⟩ ++ s) from congrArg Value.string (data_eq.2 (by simp))], hb⟩
  have hsplit : mayB s.data.toList = true → ∀ W, Calls Try.prog 14 #[.string (⟨#[47]⟩ ++ s)] W (TellsNames W [s.data.toList] 0) := by
    intro h W
    have := split_any (⟨#[47]⟩ ++ s) W
    rw [str_ahead, splitR_one h] at this
    exact this
  have HB := Lib.hid hbad
  have HG := Lib.hid hgood
  have HS := Lib.hid hsplit
  clear hbad hgood hsplit hm
  rcases pick with ⟨F, HF, HM, q1⟩ | ⟨F, HF, HM, q1, q2⟩ | ⟨F, HF, HM, q1, q2, q3⟩ | ⟨F, HF, HM, q1, q2, q3, q4⟩ | ⟨F, HF, HM, q1, q2, q3, q4⟩
  all_goals
    go_enter Try.func7, Try.ntmps7
    go_wp2_with (go_at_call 17; refine (awake_any _).mono ?_; rintro e w' ⟨rfl, hb⟩)
    have HA := Lib.hid hb
    clear hb
    go_loop [3, 4] (fun f i => ∃ (k : Nat) (g : Bool), k ≤ s.size ∧ i = .int .i64 k ∧ f = .bool g ∧ g = (F && (s.data.toList.take k).all goodB)) (fun _ i => s.size - (intOf i).toNat)
    case atStart => exact ⟨0, _, Nat.zero_le _, rfl, rfl, by rw [HF.out]; rfl⟩
    case round =>
      obtain ⟨k, g, hk, rfl, rfl, hg⟩ := hrel
      have HGG := Lib.hid hg
      clear hg
      by_cases hlt : k < s.size
      · obtain ⟨x, hx⟩ : ∃ x : UInt8, s[k]'hlt = x := ⟨_, rfl⟩
        have hxl : s.data.toList[k]? = some x := by rw [← hx]; exact Lib.data_getElem? s k hlt
        have HX := Lib.hid hxl
        clear hxl
        cases g
        · go_wp2_with fail
          go_round
          case rel => exact ⟨k + 1, false, by omega, by go_num, rfl, by rw [all_take1 HX.out, ← Bool.and_assoc, ← HGG.out]; rfl⟩
          case measure => simp [intOf]; omega
        · by_cases h47 : x = 47
          · subst h47
            go_wp2_with fail
            go_round
            case rel => exact ⟨k + 1, false, by omega, by go_num, rfl, by rw [all_take1 HX.out, ← Bool.and_assoc, ← HGG.out]; rfl⟩
            case measure => simp [intOf]; omega
          · have e1 : ((x.toNat : Int) != 47) = true := by
              rw [bne_iff_ne]; intro e; exact h47 (UInt8.toNat_inj.1 (by show x.toNat = 47; omega))
            by_cases h0 : x = 0
            · subst h0
              go_wp2_with fail
              go_round
              case rel => exact ⟨k + 1, false, by omega, by go_num, rfl, by rw [all_take1 HX.out, ← Bool.and_assoc, ← HGG.out]; rfl⟩
              case measure => simp [intOf]; omega
            · have e2 : ((x.toNat : Int) != 0) = true := by
                rw [bne_iff_ne]; intro e; exact h0 (UInt8.toNat_inj.1 (by show x.toNat = 0; omega))
              have hgx : goodB x = true := by unfold goodB; simp [h47, h0]
              have HGX := Lib.hid hgx
              clear hgx
              go_wp2_with fail
              go_round
              case rel => exact ⟨k + 1, true, by omega, by go_num, rfl, by rw [all_take1 HX.out, ← Bool.and_assoc, ← HGG.out, HGX.out]; rfl⟩
              case measure => simp [intOf]; omega
      · have hmay : g = mayB s.data.toList := by
          rw [HGG.out, HM.out, List.take_of_length_le (by have := HZ.out; omega)]
        cases g
        · obtain ⟨n, hn, hj⟩ := HB.out hmay.symm
          have HJ := Lib.hid hj
          clear hj hmay
          have hnm : Names (w'.alloc (.cells #[.string s] 9)) (.slice (some ⟨w'.heap.size, 0, none⟩) 1 1) [s.data.toList] := by
            have := names_lit1 w' s.data.toList
            rw [S, str_eta] at this
            exact this
          have HNM := Lib.hid hnm
          clear hnm
          by_cases hn290 : n = 290
          · subst hn290
            clear hn
            go_wp2_with (go_at_call 10; refine (HJ.out _ _ HNM.out).mono ?_; rintro e w2 ⟨rfl, hb2⟩)
            go_ret
            exact ⟨rfl, below_chain (below_chain HA.out ((Below.refl _ _).alloc (Nat.le_refl _) _)) hb2⟩
          · have e1 : (n == 290) = false := beq_eq_false_iff_ne.2 hn290
            rw [e1, Bool.false_or, Bool.and_eq_true] at hn
            obtain ⟨e2, e3⟩ := hn
            go_wp2_with (go_at_call 10; refine (HJ.out _ _ HNM.out).mono ?_; rintro e w2 ⟨rfl, hb2⟩)
            go_ret
            exact ⟨rfl, below_chain (below_chain HA.out ((Below.refl _ _).alloc (Nat.le_refl _) _)) hb2⟩
        · have HMay := Lib.hid hmay.symm
          clear hmay
          have hnm : Names (w'.alloc (.cells #[.string s] 9)) (.slice (some ⟨w'.heap.size, 0, none⟩) 1 1) [s.data.toList] := by
            have := names_lit1 w' s.data.toList
            rw [S, str_eta] at this
            exact this
          have HNM := Lib.hid hnm
          clear hnm
          go_wp2_with (first
            | (go_at_call 10; refine (HG.out HMay.out _ _ HNM.out).mono ?_; rintro e w2 ⟨rfl, hb2⟩; have HB2 := Lib.hid hb2; clear hb2)
            | (go_at_call 14; refine (HS.out HMay.out _).mono ?_; rintro e w3 ⟨v, rfl, hrow, _, hb3⟩; obtain ⟨g', cap', rfl⟩ := ownsRow_succ (k := 0) hrow; have hcap := row_cap hrow; have hc0 : w3.cell? ⟨g', 0, none⟩ = some (.string s) := (hrow.cellAt 0 (by decide)).trans (by rw [List.map_cons]; exact congrArg (fun x => some (Value.string x)) (str_eta s)); have HB3 := Lib.hid hb3; clear hb3 hrow))
          go_ret
          exact ⟨rfl, below_chain (below_chain (below_chain HA.out ((Below.refl _ _).alloc (Nat.le_refl _) _)) HB2.out) HB3.out⟩

end Go.Proofs.Ytjpmekapkjkkbaa
