/- quernref29.Join answers as the plain 'joinR'. -/
import Derived.Test.YtjpmekapkjkkbaaRef
namespace Go.Proofs.Ytjpmekapkjkkbaa
open Go.RowKit Go.Shelf

/-- Each name with a stroke ahead. -/
def slashed : List (List UInt8) → List UInt8
  | [] => []
  | x :: l => 47 :: x ++ slashed l

theorem slashed_append : ∀ a b, slashed (a ++ b) = slashed a ++ slashed b
  | [], b => rfl
  | x :: a, b => by simp [slashed, slashed_append a b]

theorem slashed_take {l : List (List UInt8)} {k : Nat} {x : List UInt8} (h : l[k]? = some x) : slashed (l.take (k + 1)) = slashed (l.take k) ++ [47] ++ x := by
  rw [List.take_add_one, h, slashed_append]
  simp [slashed]

theorem slashed_len : ∀ l, (slashed l).length = joinN l
  | [] => rfl
  | x :: l => by simp [slashed, joinN, slashed_len l]; omega

theorem slashed_eq : ∀ l, l ≠ [] → slashed l = 47 :: strokes l
  | [], h => absurd rfl h
  | [x], _ => by simp [slashed, strokes]
  | x :: y :: l, _ => by
    rw [slashed, slashed_eq (y :: l) (by simp), strokes]
    simp

theorem joinN_len : ∀ l : List (List UInt8), l.length ≤ joinN l
  | [] => Nat.le_refl _
  | x :: l => by have := joinN_len l; simp [joinN]; omega

theorem joinN_mem : ∀ {l : List (List UInt8)} {x : List UInt8}, x ∈ l → x.length ≤ joinN l
  | y :: l, x, h => by
    rcases List.mem_cons.1 h with rfl | h
    · simp [joinN]; omega
    · have := joinN_mem h; simp [joinN]; omega

set_option maxHeartbeats 4000000 in
theorem refJoin_void (w : World) (a : Option Addr) (c : Nat) : Calls Try.prog 11 #[.slice a 0 c] w fun e w' => e = .returned (.tuple #[S [47], .int .i64 0]) ∧ w = w' := by
  go_enter Try.func11, Try.ntmps11
  go_wp2_with fail
  refine wp_loop_rounds 1 ?_
  rw [rounds_succ]
  go_wp2_with fail
  refine wp_loop_rounds 1 ?_
  rw [rounds_succ]
  go_wp2_with fail
  go_ret2
  exact ⟨rfl, rfl⟩

set_option maxHeartbeats 4000000 in
set_option maxRecDepth 100000 in
theorem refJoin_some (w : World) (b o cap : Nat) (xs : List (List UInt8)) (hc : ∀ i x, xs[i]? = some x → w.cell? ⟨b, o + i, none⟩ = some (S x)) (hN : joinN xs ≤ 1000000) :
    Calls Try.prog 11 #[.slice (some ⟨b, o, none⟩) xs.length cap] w fun e w' => e = .returned (.tuple #[S (joinR xs).1, .int .i64 (joinR xs).2]) ∧ w = w' := by
  have hn := joinN_len xs
  have HC := Lib.hid hc
  obtain ⟨p, m, hr⟩ : ∃ p m, joinR xs = (p, m) := ⟨_, _, rfl⟩
  rw [hr]
  have HR := Lib.hid hr
  clear hc hr
  go_enter Try.func11, Try.ntmps11
  go_wp2_with fail
  go_loop [4, 5] (fun n i => ∃ k : Nat, k ≤ xs.length ∧ i = .int .i64 k ∧ n = .int .i64 (joinN (xs.take k))) (fun _ i => xs.length - (intOf i).toNat)
  case atStart => exact ⟨0, Nat.zero_le _, rfl, rfl⟩
  case round =>
    obtain ⟨k, hk, rfl, rfl⟩ := hrel
    have hle := joinN_take_le xs k
    by_cases hlt : k < xs.length
    · obtain ⟨x, hxk⟩ : ∃ x, xs[k]? = some x := ⟨_, List.getElem?_eq_getElem hlt⟩
      have hcell := HC.out k x hxk
      have hsum := joinN_take hxk
      have hxl := joinN_mem (List.mem_of_getElem? hxk)
      have HS := Lib.hid hsum
      have hsz := S_size x
      clear hsum hxk
      generalize joinN (xs.take k) = n at *
      go_wp2_with fail
      go_round
      case rel => exact ⟨k + 1, by omega, by go_num, by rw [HS.out]; go_num⟩
      case measure => simp [intOf]; omega
    · obtain rfl : k = xs.length := by omega
      have e1 : xs.take xs.length = xs := List.take_length
      rw [e1] at hle ⊢
      clear e1
      by_cases hbig : 512 < joinN xs
      · have hres : joinR xs = ([], 3) := by unfold joinR; rw [if_pos hbig]
        obtain ⟨rfl, rfl⟩ : p = [] ∧ m = 3 := by rw [HR.out] at hres; exact ⟨congrArg Prod.fst hres, congrArg Prod.snd hres⟩
        clear hres
        generalize joinN xs = N at *
        go_wp2_with fail
        go_ret2
        exact ⟨rfl, rfl⟩
      · have hsl : ∀ k, (slashed (xs.take k)).length ≤ 512 := fun k => by rw [slashed_len]; have := joinN_take_le xs k; omega
        have HSL := Lib.hid hsl
        clear hsl
        have HB := Lib.hid hbig
        obtain ⟨N, hNN⟩ : ∃ N, joinN xs = N := ⟨_, rfl⟩
        rw [hNN] at hle hn hN hbig ⊢
        clear hNN
        go_wp2_with fail
        go_loop [6, 7] (fun s i => ∃ k : Nat, k ≤ xs.length ∧ i = .int .i64 k ∧ s = S (slashed (xs.take k)) ∧ (xs.take k).all mayB = true) (fun _ i => xs.length - (intOf i).toNat)
        case atStart => exact ⟨0, Nat.zero_le _, rfl, rfl, rfl⟩
        case round =>
          obtain ⟨k, hk, rfl, rfl, ham⟩ := hrel
          have HA := Lib.hid ham
          clear ham
          by_cases hlt : k < xs.length
          · obtain ⟨x, hxk⟩ : ∃ x, xs[k]? = some x := ⟨_, List.getElem?_eq_getElem hlt⟩
            have hcell := HC.out k x hxk
            have hsl := slashed_take hxk
            have hl1 := HSL.out k
            have hl2 := HSL.out (k + 1)
            rw [hsl] at hl2
            simp only [List.length_append, List.length_singleton] at hl2
            have HK := Lib.hid hxk
            have HS := Lib.hid hsl
            clear hxk hsl
            have hxs : (⟨x.toArray⟩ : ByteArray).data.toList = x := by simp
            cases hm : mayB x
            · have hres : joinR xs = ([], 290) := by
                unfold joinR
                rw [if_neg HB.out, if_pos (all_of_bad HK.out hm)]
              obtain ⟨rfl, rfl⟩ : p = [] ∧ m = 290 := by rw [HR.out] at hres; exact ⟨congrArg Prod.fst hres, congrArg Prod.snd hres⟩
              clear hres
              go_wp2_with (go_at_call 20; refine (mayName_any ⟨x.toArray⟩ _).mono ?_; rintro e w' ⟨rfl, rfl⟩; rw [hxs, hm])
              go_ret2
              exact ⟨rfl, rfl⟩
            · have hcat := fun W => run_string_add_lists (P := Try.prog) W (slashed (xs.take k)) [47] (by omega) (by decide)
              go_wp2_with (go_at_call 20; refine (mayName_any ⟨x.toArray⟩ _).mono ?_; rintro e w' ⟨rfl, rfl⟩; rw [hxs, hm])
              go_round
              case rel => exact ⟨k + 1, by omega, by go_num, by rw [HS.out]; exact congrArg Value.string (data_eq.2 (by simp)), by rw [all_take HK.out, HA.out, hm]; rfl⟩
              case measure => simp [intOf]; omega
          · obtain rfl : k = xs.length := by omega
            have hgood : xs.all mayB = true := by have := HA.out; rw [List.take_length] at this; exact this
            have e1 : xs.take xs.length = xs := List.take_length
            rw [e1]
            have HG := Lib.hid hgood
            clear hgood e1
            by_cases h16 : 16 < xs.length
            · have hres : joinR xs = ([], 4) := by
                unfold joinR
                rw [if_neg HB.out, if_neg (by rw [HG.out]; simp), if_pos h16]
              obtain ⟨rfl, rfl⟩ : p = [] ∧ m = 4 := by rw [HR.out] at hres; exact ⟨congrArg Prod.fst hres, congrArg Prod.snd hres⟩
              clear hres
              go_wp2_with fail
              go_ret2
              exact ⟨rfl, rfl⟩
            · have hres : joinR xs = (47 :: strokes xs, 0) := by
                unfold joinR
                rw [if_neg HB.out, if_neg (by rw [HG.out]; simp), if_neg h16]
              obtain ⟨rfl, rfl⟩ : p = 47 :: strokes xs ∧ m = 0 := by rw [HR.out] at hres; exact ⟨congrArg Prod.fst hres, congrArg Prod.snd hres⟩
              clear hres
              by_cases hx0 : xs = []
              · subst hx0
                go_wp2_with fail
                go_ret2
                exact ⟨rfl, rfl⟩
              · have e2 := slashed_eq xs hx0
                rw [e2]
                obtain ⟨sq, hs⟩ : ∃ sq : ByteArray, (⟨(47 :: strokes xs).toArray⟩ : ByteArray) = sq := ⟨_, rfl⟩
                have hq : sq.toList.isEmpty = false := by rw [← hs, Lib.toList_data]; rfl
                rw [show S (47 :: strokes xs) = .string sq from congrArg Value.string hs]
                have HS := Lib.hid hs
                clear e2 hs
                go_wp2_with fail
                go_ret2
                exact ⟨by rw [S, HS.out]; rfl, rfl⟩

/-- quernref29.Join tells what 'joinR' says; the world is as it was. -/
theorem refJoin_any (w : World) (v : Value) (xs : List (List UInt8)) (h : Names w v xs) (hN : joinN xs ≤ 1000000) :
    Calls Try.prog 11 #[v] w fun e w' => e = .returned (.tuple #[S (joinR xs).1, .int .i64 (joinR xs).2]) ∧ w = w' := by
  rcases h with ⟨a, c, rfl, rfl⟩ | ⟨b, o, cap, rfl, _, _, h3⟩
  · exact refJoin_void w a c
  · exact refJoin_some w b o cap xs h3 hN

end Go.Proofs.Ytjpmekapkjkkbaa
