/- The references: quernref08.MayName, quernref29.Same, quernref29.Join answer as the plain functions. -/
import Derived.Test.YtjpmekapkjkkbaaPar
namespace Go.Proofs.Ytjpmekapkjkkbaa
open Go.RowKit Go.Shelf

set_option maxHeartbeats 4000000 in
set_option maxRecDepth 100000 in
theorem mayName_any (s : ByteArray) (w : World) : Calls Try.prog 20 #[.string s] w fun e w' => e = .returned (.bool (mayB s.data.toList)) ∧ w = w' := by
  have hz := Lib.size_eq s
  have hm := mayB_eq s.data.toList
  by_cases h0 : s.size = 0
  · obtain rfl : s = ⟨#[]⟩ := data_eq.2 (List.length_eq_zero_iff.1 (by omega))
    clear hz hm h0
    go_enter Try.func20, Try.ntmps20
    go_wp2_with fail
    go_ret
    exact ⟨rfl, rfl⟩
  have q0 : s.toList.isEmpty = false := by
    rw [Lib.toList_data]
    cases h : s.data.toList with
    | nil => rw [h, List.length_nil] at hz; omega
    | cons _ _ => rfl
  by_cases h27 : 27 < s.size
  · have hf : mayB s.data.toList = false := by rw [hm, decide_eq_false (p := _ ≤ 27) (by omega)]; simp
    rw [hf]
    have q1 : decide ((27 : Int) < (s.size : Int)) = true := decide_eq_true (by omega)
    clear hz hm hf
    go_enter Try.func20, Try.ntmps20
    go_wp2_with fail
    go_ret
    exact ⟨rfl, rfl⟩
  have q1 : decide ((27 : Int) < (s.size : Int)) = false := decide_eq_false (by omega)
  cases q2 : (s.toList == [46])
  case true =>
    have hf : mayB s.data.toList = false := by rw [hm, show (s.data.toList == [46]) = true from by rw [← Lib.toList_data]; exact q2]; simp
    rw [hf]
    clear hz hm hf
    go_enter Try.func20, Try.ntmps20
    go_wp2_with fail
    go_ret
    exact ⟨rfl, rfl⟩
  cases q3 : (s.toList == [46, 46])
  case true =>
    have hf : mayB s.data.toList = false := by rw [hm, show (s.data.toList == [46, 46]) = true from by rw [← Lib.toList_data]; exact q3]; simp
    rw [hf]
    clear hz hm hf
    go_enter Try.func20, Try.ntmps20
    go_wp2_with fail
    go_ret
    exact ⟨rfl, rfl⟩
  have hf : mayB s.data.toList = s.data.toList.all goodB := by
    rw [hm, decide_eq_true (p := 1 ≤ _) (by omega), decide_eq_true (p := _ ≤ 27) (by omega), show (s.data.toList == [46]) = false from by rw [← Lib.toList_data]; exact q2, show (s.data.toList == [46, 46]) = false from by rw [← Lib.toList_data]; exact q3]
    rfl
  rw [hf]
  have HZ := Lib.hid hz
  clear hz hm hf
  obtain ⟨r, hr⟩ : ∃ r, s.data.toList.all goodB = r := ⟨_, rfl⟩
  rw [hr]
  have HR := Lib.hid hr
  clear hr
  go_enter Try.func20, Try.ntmps20
  go_wp2_with fail
  go_loop [3] (fun i => ∃ k : Nat, k ≤ s.size ∧ i = .int .i64 k ∧ (s.data.toList.take k).all goodB = true) (fun i => s.size - (intOf i).toNat)
  case atStart => exact ⟨0, Nat.zero_le _, rfl, rfl⟩
  case round =>
    obtain ⟨k, hk, rfl, hg⟩ := hrel
    have HGG := Lib.hid hg
    clear hg
    by_cases hlt : k < s.size
    · obtain ⟨x, hx⟩ : ∃ x : UInt8, s[k]'hlt = x := ⟨_, rfl⟩
      have hxl : s.data.toList[k]? = some x := by rw [← hx]; exact Lib.data_getElem? s k hlt
      have HX := Lib.hid hxl
      clear hxl
      have bad : goodB x = false → s.data.toList.all goodB = false := by
        intro h
        rw [Bool.eq_false_iff]
        intro ha
        rw [List.all_eq_true] at ha
        have := ha x (List.mem_of_getElem? HX.out)
        rw [h] at this
        cases this
      have BAD := Lib.hid bad
      clear bad
      by_cases h47 : x = 47
      · subst h47
        go_wp2_with fail
        go_ret
        exact ⟨by rw [← HR.out, BAD.out rfl]; rfl, rfl⟩
      · have e1 : ((x.toNat : Int) == 47) = false := by
          rw [beq_eq_false_iff_ne]; intro e; exact h47 (UInt8.toNat_inj.1 (by show x.toNat = 47; omega))
        by_cases h0' : x = 0
        · subst h0'
          go_wp2_with fail
          go_ret
          exact ⟨by rw [← HR.out, BAD.out rfl]; rfl, rfl⟩
        · have e2 : ((x.toNat : Int) == 0) = false := by
            rw [beq_eq_false_iff_ne]; intro e; exact h0' (UInt8.toNat_inj.1 (by show x.toNat = 0; omega))
          have hgx : goodB x = true := by unfold goodB; simp [h47, h0']
          have HGX := Lib.hid hgx
          clear hgx
          go_wp2_with fail
          go_round
          case rel => exact ⟨k + 1, by omega, by go_num, by rw [all_take1 HX.out, HGG.out, HGX.out]; rfl⟩
          case measure => simp [intOf]; omega
    · go_wp2_with fail
      go_ret
      have := HGG.out
      rw [List.take_of_length_le (by have := HZ.out; omega)] at this
      exact ⟨by rw [← HR.out, this]; rfl, rfl⟩

/-- quernref29.Same of two slices of the same names: true; the world is as it was but for the count of draws. -/
def SameIs (w : World) (b : Bool) (e : Ending) (w' : World) : Prop := e = .returned (.bool b) ∧ ∃ n, w' = w.drewN n

set_option maxHeartbeats 4000000 in
set_option maxRecDepth 100000 in
theorem same_some (w : World) (b o c b' o' c' : Nat) (xs : List (List UInt8)) (hn : xs.length ≤ 1000000)
    (h : ∀ i x, xs[i]? = some x → w.cell? ⟨b, o + i, none⟩ = some (S x)) (h' : ∀ i x, xs[i]? = some x → w.cell? ⟨b', o' + i, none⟩ = some (S x)) :
    Calls Try.prog 12 #[.slice (some ⟨b, o, none⟩) xs.length c, .slice (some ⟨b', o', none⟩) xs.length c'] w (SameIs w true) := by
  have H := Lib.hid h
  have H' := Lib.hid h'
  clear h h'
  have d0 : ((xs.length : Int) != (xs.length : Int)) = false := by simp
  go_enter Try.func12, Try.ntmps12
  go_wp2_with fail
  go_loopw [5] (fun i wr => ∃ k nd : Nat, k ≤ xs.length ∧ i = .int .i64 k ∧ wr = w.drewN nd) (fun i _ => xs.length - (intOf i).toNat)
  case atStart => exact ⟨0, 0, Nat.zero_le _, rfl, rfl⟩
  case round =>
    obtain ⟨k, nd, hk, rfl, rfl⟩ := hrel
    by_cases hlt : k < xs.length
    · obtain ⟨x, hxk⟩ : ∃ x, xs[k]? = some x := ⟨_, List.getElem?_eq_getElem hlt⟩
      have c1 := H.out k x hxk
      have c2 := H'.out k x hxk
      have HX := Lib.hid hxk
      clear hxk
      go_wp2_with fail
      go_quiet (fail)
      go_wp2_with fail
      go_roundw
      case rel => exact ⟨k + 1, _, by omega, by go_num, rfl⟩
      case measure => simp [intOf]; omega
    · go_wp2_with fail
      go_ret
      exact ⟨rfl, _, rfl⟩

set_option maxHeartbeats 4000000 in
set_option maxRecDepth 100000 in
theorem same_void (w : World) (a a' : Option Addr) (c c' : Nat) : Calls Try.prog 12 #[.slice a 0 c, .slice a' 0 c'] w (SameIs w true) := by
  go_enter Try.func12, Try.ntmps12
  go_wp2_with fail
  refine wp_loop_rounds 1 ?_
  rw [rounds_succ]
  go_wp2_with fail
  go_ret
  exact ⟨rfl, 0, rfl⟩

theorem same_any (w : World) (v v' : Value) (xs : List (List UInt8)) (h : Names w v xs) (h' : Names w v' xs) (hn : xs.length ≤ 1000000) : Calls Try.prog 12 #[v, v'] w (SameIs w true) := by
  rcases h with ⟨a, c, rfl, rfl⟩ | ⟨b, o, c, rfl, h1, h2, h3⟩
  · rcases h' with ⟨a', c', rfl, _⟩ | ⟨b', o', c', rfl, k1, k2, k3⟩
    · exact same_void w _ _ _ _
    · exact same_void w _ _ _ _
  · rcases h' with ⟨a', c', rfl, rfl⟩ | ⟨b', o', c', rfl, k1, k2, k3⟩
    · exact same_void w _ _ _ _
    · exact same_some w b o c b' o' c' xs hn h3 k3

end Go.Proofs.Ytjpmekapkjkkbaa
