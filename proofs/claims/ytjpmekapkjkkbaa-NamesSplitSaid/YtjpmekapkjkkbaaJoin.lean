/- names.Join: what it tells of every row of names, each of at most a million bytes, at most a million of them. -/
import Derived.Test.YtjpmekapkjkkbaaSplit
import Derived.Lib.Join
namespace Go.Proofs.Ytjpmekapkjkkbaa
open Go.RowKit Go.Shelf

/-- The value is a slice of these names: empty, or a row of cells that hold them. -/
def Names (w : World) (v : Value) (xs : List (List UInt8)) : Prop :=
  (∃ a c, v = .slice a 0 c ∧ xs = []) ∨ ∃ b o cap, v = .slice (some ⟨b, o, none⟩) xs.length cap ∧ xs.length ≤ cap ∧ b < w.heap.size ∧ ∀ i x, xs[i]? = some x → w.cell? ⟨b, o + i, none⟩ = some (S x)

theorem join_eq : ∀ l, Lib.join l [47] = strokes l
  | [] => rfl
  | [x] => by rw [Lib.join_one, strokes]
  | x :: y :: l => by
    rw [strokes, ← join_eq (y :: l)]
    simp [Lib.join, List.intercalate]

/-- What is handed back: a string and a number; what lay lies as it lay. -/
def TellsPath (w : World) (p : List UInt8) (n : Int) (e : Ending) (w' : World) : Prop :=
  e = .returned (.tuple #[S p, .int .i64 n]) ∧ Below w.heap.size w w'

set_option maxHeartbeats 1000000 in
theorem join_void (w : World) (a : Option Addr) (c : Nat) : Calls Try.prog 10 #[.slice a 0 c] w (TellsPath w [47] 0) := by
  go_enter Try.func10, Try.ntmps10
  go_wp2_with fail
  refine wp_loop_rounds 1 ?_
  rw [rounds_succ]
  go_wp2_with fail
  refine wp_loop_rounds 1 ?_
  rw [rounds_succ]
  go_wp2_with (go_at_call 19; refine (Try.strings_Join_none _ _ _ _).mono ?_; rintro e w' ⟨rfl, rfl⟩)
  go_ret2
  exact ⟨rfl, Below.refl _ _⟩

set_option maxHeartbeats 4000000 in
set_option maxRecDepth 100000 in
theorem join_some (w : World) (b o cap : Nat) (xs : List (List UInt8)) (hcap : xs.length ≤ cap) (hb : b < w.heap.size) (hc : ∀ i x, xs[i]? = some x → w.cell? ⟨b, o + i, none⟩ = some (S x))
    (hn : xs.length ≤ 1000000) (hx : ∀ x ∈ xs, x.length ≤ 1000000) :
    Calls Try.prog 10 #[.slice (some ⟨b, o, none⟩) xs.length cap] w (TellsPath w (joinR xs).1 (joinR xs).2) := by
  have HC := Lib.hid hc
  have HX := Lib.hid hx
  clear hc hx
  go_enter Try.func10, Try.ntmps10
  go_wp2_with fail
  go_loop [4, 11] (fun n i => ∃ k : Nat, k ≤ xs.length ∧ i = .int .i64 k ∧ n = .int .i64 (joinN (xs.take k)) ∧ joinN (xs.take k) ≤ 512) (fun _ i => xs.length - (intOf i).toNat)
  case atStart => exact ⟨0, Nat.zero_le _, rfl, rfl, by simp [joinN]⟩
  case round =>
    obtain ⟨k, hk, rfl, rfl, hle⟩ := hrel
    by_cases hlt : k < xs.length
    · obtain ⟨x, hxk⟩ : ∃ x, xs[k]? = some x := ⟨_, List.getElem?_eq_getElem hlt⟩
      have hcell := HC.out k x hxk
      have hsum := joinN_take hxk
      have hxl := HX.out x (List.mem_of_getElem? hxk)
      have hsz := S_size x
      have HS := Lib.hid hsum
      have HK := Lib.hid hxk
      clear hsum hxk
      generalize joinN (xs.take k) = n at *
      by_cases hbig : 512 < n + (1 + x.length)
      · have hres : joinR xs = ([], 3) := by
          unfold joinR
          rw [if_pos (by have := joinN_take_le xs (k + 1); rw [HS.out] at this; omega)]
        have HR := Lib.hid hres
        clear hres
        go_wp2_with fail
        go_ret2
        rw [HR.out]
        exact ⟨rfl, Below.refl _ _⟩
      · go_wp2_with fail
        go_round
        case rel => exact ⟨k + 1, by omega, by go_num, by rw [HS.out]; go_num, by rw [HS.out]; omega⟩
        case measure => simp [intOf]; omega
    · obtain rfl : k = xs.length := by omega
      have hall : joinN xs ≤ 512 := by rw [List.take_length] at hle; exact hle
      generalize joinN (xs.take xs.length) = n at *
      go_wp2_with fail
      go_loopw [25] (fun i wr => ∃ k : Nat, k ≤ xs.length ∧ i = .int .i64 k ∧ (xs.take k).all mayB = true ∧ Below w.heap.size w wr) (fun i _ => xs.length - (intOf i).toNat)
      case atStart => exact ⟨0, Nat.zero_le _, rfl, by simp, Below.refl _ _⟩
      case round =>
        obtain ⟨k, hk, rfl, ham, hbel⟩ := hrel
        have HB := Lib.hid hbel
        have HA := Lib.hid ham
        clear hbel ham
        by_cases hlt : k < xs.length
        · obtain ⟨x, hxk⟩ : ∃ x, xs[k]? = some x := ⟨_, List.getElem?_eq_getElem hlt⟩
          have hcell : wr.cell? ⟨b, o + k, none⟩ = some (S x) := (HB.out.cell (p := ⟨b, o + k, none⟩) hb).trans (HC.out k x hxk)
          have HK := Lib.hid hxk
          clear hxk
          have hxs : (⟨x.toArray⟩ : ByteArray).data.toList = x := by simp
          cases hm : mayB x
          · have hres : joinR xs = ([], 290) := by
              unfold joinR
              rw [if_neg (by omega), if_pos (all_of_bad HK.out hm)]
            have HR := Lib.hid hres
            clear hres
            go_wp2_with (go_at_call 18; refine (may_any ⟨x.toArray⟩ _).mono ?_; rintro e w' ⟨rfl, hw⟩; rw [hxs, hm])
            go_ret2
            rw [HR.out]
            exact ⟨rfl, HB.out.trans (hw.mono HB.out.size)⟩
          · go_wp2_with (go_at_call 18; refine (may_any ⟨x.toArray⟩ _).mono ?_; rintro e w' ⟨rfl, hw⟩; rw [hxs, hm])
            go_roundw
            case rel => exact ⟨k + 1, by omega, by go_num, by rw [all_take HK.out, HA.out, hm]; rfl, HB.out.trans (hw.mono HB.out.size)⟩
            case measure => simp [intOf]; omega
        · obtain rfl : k = xs.length := by omega
          have hgood : xs.all mayB = true := by have := HA.out; rw [List.take_length] at this; exact this
          have HG := Lib.hid hgood
          clear hgood
          by_cases h16 : 16 < xs.length
          · have hres : joinR xs = ([], 4) := by
              unfold joinR
              rw [if_neg (by omega), if_neg (by rw [HG.out]; simp), if_pos h16]
            have HR := Lib.hid hres
            clear hres
            go_wp2_with fail
            go_ret2
            rw [HR.out]
            exact ⟨rfl, HB.out⟩
          · have hres : joinR xs = (47 :: strokes xs, 0) := by
              unfold joinR
              rw [if_neg (by omega), if_neg (by rw [HG.out]; simp), if_neg h16]
            have HR := Lib.hid hres
            clear hres
            have hmap : (xs.map (fun x => (⟨x.toArray⟩ : ByteArray))).map (·.data.toList) = xs := by
              rw [List.map_map]
              exact (List.map_congr_left (fun a _ => by simp)).trans (List.map_id _)
            have hjoin := Try.strings_Join b o cap (xs.map (fun x => (⟨x.toArray⟩ : ByteArray))) ⟨#[47]⟩ wr ?_ (Nat.lt_of_lt_of_le hb HB.out.size) (by simp; omega) (by simpa using hcap) ?_
            · rw [hmap, List.length_map] at hjoin
              have hj : Lib.join xs [47] = strokes xs := join_eq xs
              rw [show (⟨#[47]⟩ : ByteArray).data.toList = [47] from rfl, hj] at hjoin
              have HJ := Lib.hid hjoin
              have hlen : (strokes xs).length ≤ 512 := Nat.le_trans (strokes_length xs) hall
              clear hjoin hmap hj
              go_wp2_with (go_at_call 19; refine HJ.out.mono ?_; rintro e w' ⟨rfl, hw⟩)
              go_ret2
              rw [HR.out]
              exact ⟨by rw [show S (47 :: strokes xs) = .string (⟨#[47]⟩ ++ ⟨(strokes xs).toArray⟩) from congrArg Value.string (data_eq.2 (by simp))]; rfl, HB.out.trans (hw.mono HB.out.size)⟩
            · intro j x hx
              rw [List.getElem?_map] at hx
              cases h : xs[j]? with
              | none => rw [h] at hx; cases hx
              | some y =>
                rw [h] at hx
                cases hx
                exact (HB.out.cell (p := ⟨b, o + j, none⟩) hb).trans (HC.out j y h)
            · rw [hmap, show (⟨#[47]⟩ : ByteArray).data.toList = [47] from rfl, join_eq]
              have := strokes_length xs
              omega

/-- names.Join tells what 'joinR' says. -/
theorem join_any (w : World) (v : Value) (xs : List (List UInt8)) (h : Names w v xs) (hn : xs.length ≤ 1000000) (hx : ∀ x ∈ xs, x.length ≤ 1000000) :
    Calls Try.prog 10 #[v] w (TellsPath w (joinR xs).1 (joinR xs).2) := by
  rcases h with ⟨a, c, rfl, rfl⟩ | ⟨b, o, cap, rfl, h1, h2, h3⟩
  · exact join_void w a c
  · exact join_some w b o cap xs h1 h2 h3 hn hx

end Go.Proofs.Ytjpmekapkjkkbaa
