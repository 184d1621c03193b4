/- geo.What, of a geometry that may be: the groups, the whole. -/
import Derived.Test.YtdnkofpkkebefaaGreatDoorWhat
set_option linter.unusedSimpArgs false
set_option linter.unusedVariables false
set_option linter.unusedSectionVars false
set_option maxRecDepth 100000
namespace Go.Proofs.YtdnkofpkkebefaaGreatDoor
open Go.Ev
theorem buP3 (a1 a2 a3 a4 a5 b1 b2 b3 b4 b5 c1 c2 c3 c4 c5 : C) : opBuild K 442 (some [(0, .g [a1, a2, a3, a4, a5]), (1, .g [b1, b2, b3, b4, b5]), (2, .g [c1, c2, c3, c4, c5])]) = some (.g [a1, a2, a3, a4, a5, b1, b2, b3, b4, b5, c1, c2, c3, c4, c5]) := by kernel_rfl
theorem buP4 (a1 a2 a3 a4 a5 b1 b2 b3 b4 b5 c1 c2 c3 c4 c5 d1 d2 d3 d4 d5 : C) : opBuild K 443 (some [(0, .g [a1, a2, a3, a4, a5]), (1, .g [b1, b2, b3, b4, b5]), (2, .g [c1, c2, c3, c4, c5]), (3, .g [d1, d2, d3, d4, d5])]) = some (.g [a1, a2, a3, a4, a5, b1, b2, b3, b4, b5, c1, c2, c3, c4, c5, d1, d2, d3, d4, d5]) := by kernel_rfl
theorem wrP {x y : List C} {n : Nat} (hx : x.length = n) (hy : y.length = n) (h : 0 < n) : writeRow n [x] 0 y = some [y] := by
 subst hy
 exact writeRow_all h hx
theorem rdP {x : List C} {n : Nat} (hx : x.length = n) (h : 0 < n) : readRow n [x] 0 n = some x := by
 subst hx
 exact readRow_all h
section
variable (Hh : Hearts K Tryz.prog)
include Hh
set_option maxHeartbeats 4000000 in
theorem partsAll {l pb p4 p5 p6 pg gr sz ino jr b d : Nat} {tl : Tmps} (F : Fine gr sz ino jr) (s6 : b < 9223372036854775808) : ∀ (m k : Nat) (ts : Tmps) (h : Go.Ev.H), k + m = gr → 2 + jr + k * sz ≤ b → WCtx l pb p4 p5 p6 pg gr sz ino jr b d tl h → evalT ts 0 = .w (.c (.yield l)) → evalT ts 1 = .w (.c (.ptr pg 0)) → evalT ts 3 = .w (.c (.int .i64 ((ino / 4 : Nat) : Int))) → evalT ts 31 = .w (.c (.int .i64 gr)) → evalT ts 32 = .w (.c (.int .i64 k)) →
  Goes K Tryz.prog 79 none (q377 [1,1,1,1,2]) [] ts h fun x ds' ts' h' => ds' = [] ∧ ((x = .exit 2 ∧ 2 + jr + gr * sz ≤ b ∧ h.next ≤ h'.next ∧ ∀ m, m < h.next → h'.get m = h.get m) ∨
   (x = .ret ∧ ∃ k0 q, k0 < gr ∧ q < 4 ∧ grpE sz ino jr k0 q ≤ b ∧ b < grpE sz ino jr k0 (q + 1) ∧ WAns l p4 p5 p6 d tl (grpP sz ino jr k0 q).1 k0 (b - grpE sz ino jr k0 0) h h')) := by
 have F' := F
 obtain ⟨g1, g2, g3, g4, g5, g6, g7, g8, g9, g10, g11⟩ := F'
 intro m
 induction m with
 | zero =>
  intro k ts h hk hb W e0 e1 e3 e31 e32
  obtain rfl : k = gr := by omega
  have Jf := andI2 @e31 @e32
  iterate 6 (first | apply Goes.seq | apply Goes.exit | apply Goes.loop | refine Goes.condV autBarJ ?_ | refine runO Hh E0_sound autBarJ ?_)
  exact ⟨rfl, .inl ⟨rfl, hb, Nat.le_refl _, fun _ _ => rfl⟩⟩
 | succ m ih =>
  intro k ts h hk hb W e0 e1 e3 e31 e32
  have hk0 : k < gr := by omega
  have gm : (k : Int) * (sz : Int) = ((k * sz : Nat) : Int) := rfl
  have b1 : k * sz ≤ gr * sz := Nat.mul_le_mul (by omega) (by omega)
  have n1 : (2 : Int) + (jr : Int) = ((2 + jr : Nat) : Int) := rfl
  have n2 : ((2 + jr : Nat) : Int) + ((k * sz : Nat) : Int) = ((2 + jr + k * sz : Nat) : Int) := rfl
  have n3 : ((2 + jr + k * sz : Nat) : Int) + 1 = ((2 + jr + k * sz + 1 : Nat) : Int) := rfl
  have n4 : ((2 + jr + k * sz : Nat) : Int) + 2 = ((2 + jr + k * sz + 2 : Nat) : Int) := rfl
  have n5 : ((2 + jr + k * sz + 2 : Nat) : Int) + ((ino / 4 : Nat) : Int) = ((2 + jr + k * sz + 2 + ino / 4 : Nat) : Int) := rfl
  have n6 : (sz : Int) - 2 = ((sz - 2 : Nat) : Int) := by omega
  have n7 : ((sz - 2 : Nat) : Int) - ((ino / 4 : Nat) : Int) = ((sz - 2 - ino / 4 : Nat) : Int) := by omega
  have n8 : (2 : Int) + ((ino / 4 : Nat) : Int) = ((2 + ino / 4 : Nat) : Int) := rfl
  have hg := W.hg
  have bg := W.bg
  have bl := W.bl
  iterate 17 (first | apply Goes.seq | apply Goes.skip | apply Goes.block | apply Goes.loop | ((first | apply Goes.condV | apply Goes.ops2 fits Hh E0_sound); · simp (maxSteps := 999999) +decide (discharger := first | omega | (simp only [lens] <;> omega) | decide) only [go_sem, loadIn, simprocAttr, e0, e1, e3, e31, e32, hg, geoL, gm, n1, n2, n3, n4, n5, n6, n7, n8, buP4, wrP, rdP, read1] <;> rfl))
  refine (partsIn Hh F s6 hk0 4 0 _ _ (by omega) (by show 2 + jr + k * sz ≤ b; omega) (W.move ?_ ?_) ?_ ?_ ?_).mono ?_
  ·simp only [H.next_put, H.next_new] <;> omega
  ·intro m' hm
   rw [get_put_ne (by omega), get_new_ne (by omega)]
  ·simp (decide := true) only [evalT_set, reduceIte, e0]
  ·simp (decide := true) only [evalT_set, reduceIte] <;> rfl
  ·simp (decide := true) only [evalT_set, reduceIte] <;> rfl
  rintro x ds' ts' h' ⟨rfl, tsk, ⟨rfl, y1, y2, y3⟩ | ⟨rfl, q, y1, y2, y3, y4⟩⟩
  ·have f0 : evalT ts' 0 = .w (.c (.yield l)) := (tsk 0 (.inl (by decide))).trans (by simp (decide := true) only [evalT_set, reduceIte, e0])
   have f1 : evalT ts' 1 = .w (.c (.ptr pg 0)) := (tsk 1 (.inl (by decide))).trans (by simp (decide := true) only [evalT_set, reduceIte, e1])
   have f3 : evalT ts' 3 = .w (.c (.int .i64 ((ino / 4 : Nat) : Int))) := (tsk 3 (.inl (by decide))).trans (by simp (decide := true) only [evalT_set, reduceIte, e3])
   have f31 : evalT ts' 31 = .w (.c (.int .i64 gr)) := (tsk 31 (.inr (.inl rfl))).trans (by simp (decide := true) only [evalT_set, reduceIte, e31])
   have f32 : evalT ts' 32 = .w (.c (.int .i64 k)) := (tsk 32 (.inr (.inr rfl))).trans (by simp (decide := true) only [evalT_set, reduceIte, e32])
   simp only [H.next_put, H.next_new] at y2 y3
   have y4 : ∀ m, m < h.next → h'.get m = h.get m := fun m' hm => by
    rw [y3 m' (by omega), get_put_ne (by omega), get_new_ne (by omega)]
   have mu : (k + 1) * sz = k * sz + sz := by rw [Nat.add_mul, Nat.one_mul]
   have Jf := andI5 @f0 @f1 @f3 @f31 @f32
   refine runO Hh E0_sound autBarJ ?_
   show Goes K Tryz.prog 79 none (q377 [1,1,1,1,2]) _ _ _ _
   refine (ih (k + 1) _ h' (by omega) (by omega) (W.move (by omega) y4) ?_ ?_ ?_ ?_ ?_).mono ?_
   ·simp (decide := true) only [evalT_set, reduceIte, f0]
   ·simp (decide := true) only [evalT_set, reduceIte, f1]
   ·simp (decide := true) only [evalT_set, reduceIte, f3]
   ·simp (decide := true) only [evalT_set, reduceIte, f31]
   ·simp (decide := true) only [evalT_set, reduceIte] <;> rfl
   rintro x ds' ts2 h2 ⟨z1, z3⟩
   refine ⟨z1, ?_⟩
   rcases z3 with ⟨rfl, z4, z5, z6⟩ | ⟨rfl, k0, q, z4, z5, z6, z7, z8⟩
   ·exact .inl ⟨rfl, z4, by omega, fun m' hm => (z6 m' (by omega)).trans (y4 m' hm)⟩
   ·exact .inr ⟨rfl, k0, q, z4, z5, z6, z7, z8.back (by omega) y4⟩
  ·exact ⟨rfl, .inr ⟨rfl, k, q, hk0, y1, y2, y3, y4.back (by simp only [H.next_put, H.next_new] <;> omega) (fun m' hm => by rw [get_put_ne (by omega), get_new_ne (by omega)])⟩⟩
def whatN (gr sz ino jr b : Nat) : Nat × Nat × Nat :=
 if b = 0 then (1, 0, 0) else if b = 1 then (2, 0, 0) else if b < 2 + jr then (3, 0, b - 2) else if 2 + jr + gr * sz ≤ b then (0, 0, 0)
 else ((if (b - 2 - jr) % sz = 0 then 4 else if (b - 2 - jr) % sz = 1 then 5 else if (b - 2 - jr) % sz < 2 + ino / 4 then 6 else 7), (b - 2 - jr) / sz, (b - 2 - jr) % sz)
omit Hh in
theorem whatN_head {gr sz ino jr b q : Nat} (F : Fine gr sz ino jr) (hq : q < 3) (h1 : headE jr q ≤ b) (h2 : b < headE jr (q + 1)) : whatN gr sz ino jr b = ((headP jr q).1, 0, b - headE jr q) := by
 obtain ⟨g1, g2, g3, g4, g5, g6, g7, g8, g9, g10, g11⟩ := F
 have : q = 0 ∨ q = 1 ∨ q = 2 := by omega
 unfold whatN
 rcases this with rfl | rfl | rfl <;> simp only [headE, headP, Nat.reduceAdd] at h1 h2 ⊢
 ·obtain rfl : b = 0 := by omega
  rfl
 ·obtain rfl : b = 1 := by omega
  rfl
 ·rw [if_neg (by omega), if_neg (by omega), if_pos (by omega)]
omit Hh in
theorem whatN_group {gr sz ino jr b k q : Nat} (F : Fine gr sz ino jr) (hk : k < gr) (hq : q < 4) (h1 : grpE sz ino jr k q ≤ b) (h2 : b < grpE sz ino jr k (q + 1)) : whatN gr sz ino jr b = ((grpP sz ino jr k q).1, k, b - grpE sz ino jr k 0) := by
 obtain ⟨g1, g2, g3, g4, g5, g6, g7, g8, g9, g10, g11⟩ := F
 have m1 : k * sz + sz ≤ gr * sz := by
  have := Nat.mul_le_mul_right sz (show k + 1 ≤ gr by omega)
  rw [Nat.add_mul] at this
  omega
 have e0 : grpE sz ino jr k 0 = 2 + jr + k * sz := rfl
 have r1 : 2 + jr + k * sz ≤ b ∧ b < 2 + jr + k * sz + sz := by
  have : q = 0 ∨ q = 1 ∨ q = 2 ∨ q = 3 := by omega
  rcases this with rfl | rfl | rfl | rfl <;> simp only [grpE, Nat.reduceAdd] at h1 h2 <;> omega
 obtain ⟨p, hp⟩ : ∃ p, b = 2 + jr + k * sz + p := ⟨b - (2 + jr + k * sz), by omega⟩
 have hps : p < sz := by omega
 have d1 : b - 2 - jr = p + k * sz := by omega
 have d2 : (b - 2 - jr) / sz = k := by rw [d1, Nat.add_mul_div_right _ _ (by omega), Nat.div_eq_of_lt hps, Nat.zero_add]
 have d3 : (b - 2 - jr) % sz = p := by rw [d1, Nat.add_mul_mod_self_right, Nat.mod_eq_of_lt hps]
 unfold whatN
 rw [if_neg (by omega), if_neg (by omega), if_neg (by omega), if_neg (by omega), d2, d3, e0]
 have : q = 0 ∨ q = 1 ∨ q = 2 ∨ q = 3 := by omega
 rcases this with rfl | rfl | rfl | rfl <;> simp only [grpE, grpP, Nat.reduceAdd] at h1 h2 ⊢
 ·rw [if_pos (by omega)]; congr 2; omega
 ·rw [if_neg (by omega), if_pos (by omega)]; congr 2; omega
 ·rw [if_neg (by omega), if_neg (by omega), if_pos (by omega)]; congr 2; omega
 ·rw [if_neg (by omega), if_neg (by omega), if_neg (by omega)]; congr 2; omega
end
end Go.Proofs.YtdnkofpkkebefaaGreatDoor
