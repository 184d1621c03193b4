/- strings.IndexAny and ContainsAny at the chars that may not be in a name, for every string of fewer than 2^32 bytes, ASCII or not; and names.may. -/
import Derived.Test.YtjpmekapkjkkbaaMay
import Derived.Lib.OthersKept
import Derived.Deep.LoopGhost
namespace Go.Proofs.Ytjpmekapkjkkbaa
open Go.RowKit Go.Lib

theorem get_of (s : ByteArray) (i : Nat) (b : UInt8) (h : s.data.toList[i]? = some b) : s.get! i = b := by
  obtain ⟨hi, e⟩ := List.getElem?_eq_some_iff.1 h
  have hi' : i < s.size := by rw [Array.length_toList] at hi; exact hi
  simp [ByteArray.get!, getElem!_pos, hi']
  exact e

/-- The bytes that a rune beyond ASCII takes are all beyond ASCII. -/
theorem decode_skip (s : ByteArray) (pos : Nat) (h : pos < s.size) (ha : 128 ≤ (s[pos]'h).toNat) (k : Nat) (hk : k < (Utf8.decode s pos).2) : pos + k < s.size ∧ 128 ≤ (s.get! (pos + k)).toNat := by
  have h0 : 128 ≤ (s.get! (pos + 0)).toNat := by rw [get_at s pos h]; exact ha
  have hn : ¬ (s.get! (pos + 0)).toNat < 128 := by omega
  have one : k = 0 → pos + k < s.size ∧ 128 ≤ (s.get! (pos + k)).toNat := fun e => by subst e; exact ⟨h, h0⟩
  have c : ∀ j, (decide (pos + j < s.size) && (s.get! (pos + j)).toNat / 64 == 2) = true → pos + j < s.size ∧ 128 ≤ (s.get! (pos + j)).toNat := fun j hj => by
    simp at hj
    omega
  by_cases hk0 : k = 0
  · exact one hk0
  simp only [Utf8.decode, hn, if_false] at hk
  repeat' split at hk
  all_goals first
    | (exfalso; simp at hk; omega)
    | (have : k = 1 ∨ k = 2 ∨ k = 3 := by omega
       rcases this with e | e | e <;> subst e <;> first | omega | (apply c; simp_all; done))

theorem noAny_skip {s : ByteArray} {i n : Nat} (h : NoAny s.data.toList [47, 0] i) (hk : ∀ k, k < n → i + k < s.size ∧ 128 ≤ (s.get! (i + k)).toNat) : NoAny s.data.toList [47, 0] (i + n) := by
  intro j b hj hb
  by_cases hji : j < i
  · exact h j b hji hb
  · have := (hk (j - i) (by omega)).2
    rw [show i + (j - i) = j by omega, get_of s j b hb] at this
    simp
    constructor <;> (rintro rfl; revert this; decide)

theorem skip_le {s : ByteArray} {i n : Nat} (h1 : 1 ≤ n) (hk : ∀ k, k < n → i + k < s.size ∧ 128 ≤ (s.get! (i + k)).toNat) : i + n ≤ s.size := by
  have := (hk (n - 1) (by omega)).1
  omega

set_option maxHeartbeats 8000000 in
set_option maxRecDepth 1000000 in
theorem indexAny_short (s : ByteArray) (w : World) (h8 : s.size ≤ 8) :
    Calls Try.prog 28 #[.string s, .string ⟨#[47, 0]⟩] w fun e w' => e = .returned (.int .i64 (Lib.indexAny s.data.toList [47, 0])) ∧ Below w.heap.size w w' := by
  have h8z : decide ((8 : Int) < (s.size : Int)) = false := decide_eq_false (by omega)
  go_enter Try.func28, Try.ntmps28
  go_wp2_with (go_at_call 33; refine (Try.strings_shouldUseASCIISet _ _).mono ?_; rintro e w' ⟨rfl, hw⟩; rw [hw, h8z])
  go_loopg [9, 10] s.size (fun g _ _ wx => ∃ i : Nat, i + g = s.size ∧ wx.heap[w.heap.size]? = some (.stringIter s i) ∧ Below w.heap.size w wx ∧ Lib.NoAny s.data.toList [47, 0] i)
  case atStart => exact ⟨0, by omega, World.iter_heap _ _ _, (Below.refl _ _).alloc (Nat.le_refl _) _, Lib.NoAny.zero _ _⟩
  case round =>
    obtain ⟨i, hig, hit, hbel, hno⟩ := hrel
    have HN := Lib.hid hno
    have HB := Lib.hid hbel
    clear hno hbel
    cases gk with
    | zero =>
      obtain rfl : i = s.size := by omega
      have hnx := fun ty => run_next_end_at (P := Try.prog) wr w.heap.size s s.size ty hit (by omega)
      clear hit
      go_wp2
      go_ret
      exact ⟨by rw [Lib.indexAny_none (by rw [← Lib.size_eq]; exact HN.out)]; rfl, HB.out⟩
    | succ g =>
      have hi : i < s.size := by omega
      obtain ⟨x, hx⟩ : ∃ x : UInt8, s[i]'hi = x := ⟨_, rfl⟩
      have hxl : s.data.toList[i]? = some x := by rw [← hx]; exact Lib.data_getElem? s i hi
      have Hx := Lib.hid hxl
      by_cases ha : x.toNat < 128
      · have hnx := fun ty => run_next_ascii_at (P := Try.prog) wr w.heap.size s i ty hit hi (by rw [hx]; exact ha)
        rw [hx] at hnx
        have h1 := iterAt_heap wr w.heap.size s i (i + 1) hit
        have b1 := below_iterAt HB.out (Nat.le_refl _) s (i + 1)
        generalize wr.iterAt w.heap.size s (i + 1) = wq at *
        have HQ := Lib.hid h1
        have HB1 := Lib.hid b1
        clear hxl hx hit h1 b1
        have hback : ((x.toNat : Int)).toNat.toUInt8 = x := by simp
        have hcon := Lib.contains_iff_indexByte [47, 0] x
        cases hin : [47, 0].contains x
        · rw [hin] at hcon
          have hlt : ¬ ((0 : Int) ≤ Lib.indexByte [47, 0] x) := of_decide_eq_false hcon.symm
          clear hcon
          go_wp2_with (go_at_call 32; refine (Try.strings_IndexRune_ascii _ _ _ (by omega) (by omega)).mono ?_; rintro e w' ⟨rfl, hw⟩; rw [hw, hback])
          go_roundg g
          case measure => omega
          case rel => exact ⟨i + 1, by omega, HQ.out, HB1.out, HN.out.succ Hx.out hin⟩
        · rw [hin] at hcon
          have hge : (0 : Int) ≤ Lib.indexByte [47, 0] x := of_decide_eq_true hcon.symm
          clear hcon
          go_wp2_with (go_at_call 32; refine (Try.strings_IndexRune_ascii _ _ _ (by omega) (by omega)).mono ?_; rintro e w' ⟨rfl, hw⟩; rw [hw, hback])
          go_ret
          exact ⟨by rw [Lib.indexAny_hit HN.out Hx.out hin]; rfl, HB1.out⟩
      · have hd := decode_high s i hi (by rw [hx]; omega)
        have hsk := decode_skip s i hi (by rw [hx]; omega)
        have hle := skip_le hd.2 hsk
        have hnx := fun ty => run_next_any_at (P := Try.prog) wr w.heap.size s i ty hit hi
        have hn' := noAny_skip HN.out hsk
        clear hsk
        obtain ⟨hr, hn1⟩ := hd
        generalize (Utf8.decode s i).1 = r at *
        generalize (Utf8.decode s i).2 = n at *
        have h1 := iterAt_heap wr w.heap.size s i (i + n) hit
        have b1 := below_iterAt HB.out (Nat.le_refl _) s (i + n)
        generalize wr.iterAt w.heap.size s (i + n) = wq at *
        have HQ := Lib.hid h1
        have HB1 := Lib.hid b1
        have HN1 := Lib.hid hn'
        clear hxl hx hit h1 b1 hn'
        go_wp2_with (go_at_call 32; refine (indexRune_high _ _ (by omega)).mono ?_; rintro e w' ⟨rfl, hw⟩; have HW := Lib.hid hw; clear hw)
        go_roundg (s.size - (i + n))
        case measure => omega
        case rel =>
          have hlt : w.heap.size < wq.heap.size := (Array.getElem?_eq_some_iff.1 HQ.out).1
          exact ⟨i + n, by omega, (HW.out.block _ hlt).trans HQ.out, HB1.out.trans (HW.out.mono (by omega)), HN1.out⟩

theorem zero63 : (Try.prog.info? 63).map (fun i => (i.zero, i.size)) = some (some (.agg (Array.replicate 256 (.bool false))), 256) := by kernel_rfl

/-- strings.IndexAny at the chars that may not be in a name. -/
theorem indexAny_any (s : ByteArray) (w : World) (hs : s.size < 4294967281) :
    Calls Try.prog 28 #[.string s, .string ⟨#[47, 0]⟩] w fun e w' => e = .returned (.int .i64 (Lib.indexAny s.data.toList [47, 0])) ∧ Below w.heap.size w w' := by
  by_cases h8 : s.size ≤ 8
  · exact indexAny_short s w h8
  · refine (Try.strings_IndexAny_long (zero_of_info zero63).1 s ⟨#[47, 0]⟩ w (by decide) (by omega) hs (by decide) ?_).mono fun e w' ⟨h1, h2⟩ => ⟨h1, ?_⟩
    · intro j b hb
      match j, hb with
      | 0, hb => cases hb; decide
      | 1, hb => cases hb; decide
      | j + 2, hb => simp at hb
    · rw [h2]
      exact ((Below.refl _ _).alloc (Nat.le_refl _) _).alloc (by simp) _

set_option maxHeartbeats 1000000 in
theorem containsAny_any (s : ByteArray) (w : World) (hs : s.size < 4294967281) :
    Calls Try.prog 22 #[.string s, .string ⟨#[47, 0]⟩] w fun e w' => e = .returned (.bool (Lib.containsAny s.data.toList [47, 0])) ∧ Below w.heap.size w w' := by
  go_enter Try.func22, Try.ntmps22
  go_wp2_with (go_at_call 28; refine (indexAny_any _ _ hs).mono ?_; rintro e w' ⟨rfl, hw⟩)
  go_ret
  exact ⟨rfl, hw⟩

end Go.Proofs.Ytjpmekapkjkkbaa
