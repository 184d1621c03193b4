/- quernlaw29.NamesBack returns true for every path and every slice of strings. -/
import Derived.Test.YtjpmekapkjkkbaaJoinLaw
namespace Go.Proofs.Ytjpmekapkjkkbaa
open Go.RowKit Go.Shelf

/-- What the walk asks of the calls: the path is split; if it may be, its names lead back; the names are joined, or refused; if they may be, their path leads back. -/
def BackPath (s : ByteArray) (l : List (List UInt8)) (n : Int) : Prop :=
  (∀ W : World, Calls Try.prog 14 #[.string s] W (TellsNames W l n)) ∧ (n ≠ 0 → l = []) ∧
  (n = 0 → ∀ (W : World) (v : Value), Names W v l → Calls Try.prog 10 #[v] W (fun e w' => e = .returned (.tuple #[.string s, .int .i64 0]) ∧ Below W.heap.size W w'))
def BackNames (w : World) (v : Value) (xs : List (List UInt8)) (p : List UInt8) (n : Int) : Prop :=
  (∀ W : World, Below w.heap.size w W → Calls Try.prog 10 #[v] W (TellsPath W p n)) ∧ (n ≠ 0 → p = []) ∧
  (n = 0 → ∀ W : World, Calls Try.prog 14 #[S p] W (TellsNames W xs 0)) ∧ (∀ (W : World) (v' : Value), Below w.heap.size w W → Names W v' xs → Calls Try.prog 12 #[v', v] W (SameIs W true))

theorem backPath (s : ByteArray) : BackPath s (splitR s.data.toList).1 (splitR s.data.toList).2 := by
  refine ⟨fun W => split_any s W, fun h => splitR_err h, fun h W v hv => ?_⟩
  have hg := splitR_good s.data.toList
  have := join_any W v _ hv (by have := hg.2; omega) (fun y hy => by have := all_short hg.1 y hy; omega)
  rw [back_join h] at this
  refine this.mono ?_
  rintro e w' ⟨rfl, hb⟩
  exact ⟨by rw [S, str_eta], hb⟩

theorem backNames (w : World) (v : Value) (xs : List (List UInt8)) (h : Names w v xs) (hN : joinN xs ≤ 1000000) : BackNames w v xs (joinR xs).1 (joinR xs).2 := by
  have hn := joinN_len xs
  refine ⟨fun W hb => join_any W v xs (names_below h hb) (by omega) (fun x hx => by have := joinN_mem hx; omega), fun h => joinR_err h, fun h0 W => ?_, fun W v' hb hv => same_any W v' v xs hv (names_below h hb) (by omega)⟩
  have := split_any ⟨(joinR xs).1.toArray⟩ W
  rw [show (⟨(joinR xs).1.toArray⟩ : ByteArray).data.toList = (joinR xs).1 from rfl, back_split h0] at this
  exact this

theorem names_len {w : World} {v : Value} {xs : List (List UInt8)} (h : Names w v xs) : ∃ a c, v = .slice a xs.length c := by
  rcases h with ⟨a, c, rfl, rfl⟩ | ⟨b, o, cap, rfl, _⟩
  · exact ⟨a, c, rfl⟩
  · exact ⟨_, _, rfl⟩

set_option maxHeartbeats 4000000 in
set_option maxRecDepth 100000 in
theorem back_void (s : ByteArray) (a : Option Addr) (cap : Nat) (w : World) (l : List (List UInt8)) (n : Int) (hp : BackPath s l n) (p : List UInt8) (hq : BackNames w (.slice a 0 cap) [] p 0) :
    Calls Try.prog 5 #[.string s, .slice a 0 cap] w fun e w' => e = .returned (.bool true) ∧ Below w.heap.size w w' := by
  obtain ⟨P1, P2, P3⟩ := hp
  obtain ⟨Q1, Q2, Q3, Q4⟩ := hq
  have hp1 := Lib.hid P1; have hp2 := Lib.hid P2; have hp3 := Lib.hid P3; have hq1 := Lib.hid Q1; have hq3 := Lib.hid Q3; have hq4 := Lib.hid Q4
  clear P1 P2 P3 Q1 Q2 Q3 Q4
  by_cases hbig : 20000 < s.size
  · have hmin : 20000 < min (s.size : Int) 20001 := by omega
    go_enter Try.func5, Try.ntmps5
    go_wp2_with (go_at_call 17; refine (awake_any _).mono ?_; rintro e w' ⟨rfl, hb⟩)
    refine wp_loop_rounds 1 ?_
    rw [rounds_succ]
    go_wp2_with fail
    go_ret
    exact ⟨rfl, hb⟩
  · have hmin : ¬ 20000 < min (s.size : Int) 20001 := by omega
    by_cases hn : n = 0
    · subst hn
      have kp3 := Lib.hid (hp3.out rfl)
      have kq3 := Lib.hid (hq3.out rfl)
      clear hp3 hq3
      go_enter Try.func5, Try.ntmps5
      go_wp2_with (go_at_call 17; refine (awake_any _).mono ?_; rintro e w' ⟨rfl, hb⟩; have HA := Lib.hid hb; clear hb)
      refine wp_loop_rounds 1 ?_
      rw [rounds_succ]
      go_wp2_with fail
      refine (hp1.out _).mono ?_
      rintro e w2 ⟨v, rfl, hrow, _, hb2⟩
      have HN := Lib.hid (names_of_row hrow)
      have HB2 := Lib.hid (below_chain HA.out hb2)
      clear hrow hb2
      go_wp2_with fail
      refine (kp3.out _ _ HN.out).mono ?_
      rintro e w3 ⟨rfl, hb3⟩
      have HB3 := Lib.hid (below_chain HB2.out hb3)
      clear hb3
      go_wp2_with fail
      refine (hq1.out _ HB3.out).mono ?_
      rintro e w4 ⟨rfl, hb4⟩
      have HB4 := Lib.hid (below_chain HB3.out hb4)
      clear hb4
      go_wp2_with fail
      refine (kq3.out _).mono ?_
      rintro e w5 ⟨v5, rfl, hrow, _, hb5⟩
      have HN5 := Lib.hid (names_of_row (xs := []) hrow)
      have HB5 := Lib.hid (below_chain HB4.out hb5)
      clear hb5 hrow
      go_wp2_with (go_at_call 12; refine (hq4.out _ _ HB5.out HN5.out).mono ?_; rintro e w6 ⟨rfl, nd, rfl⟩)
      go_ret
      exact ⟨rfl, below_drewN HB5.out _⟩
    · have d1 : (n == 0) = false := beq_eq_false_iff_ne.2 hn
      obtain rfl := hp2.out hn
      have kq3 := Lib.hid (hq3.out rfl)
      clear hq3
      go_enter Try.func5, Try.ntmps5
      go_wp2_with (go_at_call 17; refine (awake_any _).mono ?_; rintro e w' ⟨rfl, hb⟩; have HA := Lib.hid hb; clear hb)
      refine wp_loop_rounds 1 ?_
      rw [rounds_succ]
      go_wp2_with fail
      refine (hp1.out _).mono ?_
      rintro e w2 ⟨v, rfl, _, hv, hb2⟩
      obtain rfl := hv.2 rfl
      have HB2 := Lib.hid (below_chain HA.out hb2)
      clear hb2 hv
      go_wp2_with fail
      refine (hq1.out _ HB2.out).mono ?_
      rintro e w4 ⟨rfl, hb4⟩
      have HB4 := Lib.hid (below_chain HB2.out hb4)
      clear hb4
      go_wp2_with fail
      refine (kq3.out _).mono ?_
      rintro e w5 ⟨v5, rfl, hrow, _, hb5⟩
      have HN5 := Lib.hid (names_of_row (xs := []) hrow)
      have HB5 := Lib.hid (below_chain HB4.out hb5)
      clear hb5 hrow
      go_wp2_with (go_at_call 12; refine (hq4.out _ _ HB5.out HN5.out).mono ?_; rintro e w6 ⟨rfl, nd, rfl⟩)
      go_ret
      exact ⟨rfl, below_drewN HB5.out _⟩

end Go.Proofs.Ytjpmekapkjkkbaa
