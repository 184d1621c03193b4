/- What the law's table, and the store's maps, tell of one another; no program in sight. -/
import Derived.Test.YtpiljmilaelfnaaGreatDoorMem
import Derived.Test.YtpiljmilaelfnaaGreatDoorFil
set_option linter.unusedSimpArgs false
set_option linter.unusedVariables false
set_option linter.unusedSectionVars false
set_option maxRecDepth 100000
namespace Go.Proofs.YtpiljmilaelfnaaGreatDoor
open Go.Ev
def zN (e j : Nat) : Int := ((2 + e + j : Nat) : Int)
def BlkOk (x : List C) : Prop := x.length = 256 ∧ x.all C.flat = true ∧ eqInts x x = some true
structure Good (m e : Nat) (md : Int) (i : Nat) (ld lt lc : Ents) (L : List (List C)) : Prop where
 len : L.length = m
 el : ∀ j, j < m → ∃ x, L[j]? = some x ∧ BlkOk x ∧ ((md = 3 ∨ j % 2 = 0) → lookE (zN e j) ld = none ∧ (lookE (zN e j) lc = some x ∨ (lookE (zN e j) lc = none ∧ x = zB))) ∧
  (¬(md = 3 ∨ j % 2 = 0) → lookE (zN e j) lc = none ∧ (lookE (zN e j) ld = some (.int .i64 (zN e j) :: x) ∨ (lookE (zN e j) ld = none ∧ x = zB)))
 dk : ∀ k y, lookE k ld = some y → y.length = 257 ∧ y.all C.flat = true ∧ ∃ j, j < m ∧ k = zN e j
 ck : ∀ k y, lookE k lc = some y → y.length = 256 ∧ y.all C.flat = true
 tk : ∀ k, lookE k lt = none ∨ lookE k lt = some []
 tl : lt.length ≤ i
 dl : ld.length ≤ i
 kf : ∀ p ∈ ld, keyFits p.1 = true
 fd : flatE ld = true
 ft : flatE lt = true
 fc : flatE lc = true
theorem zN_inj {e j k : Nat} (h : zN e j = zN e k) : j = k := by
 unfold zN at h
 omega
theorem blk_zB : BlkOk zB := ⟨by kernel_rfl, by kernel_rfl, by kernel_rfl⟩
theorem eqInts_u8 : ∀ l : List Nat, eqInts (l.map fun (n : Nat) => C.int .u8 (n : Int)) (l.map fun (n : Nat) => C.int .u8 (n : Int)) = some true
 | [] => rfl
 | n :: l => by
  show (if IntKind.u8 = IntKind.u8 then (bif (n : Int) == (n : Int) then eqInts (l.map fun (n : Nat) => C.int .u8 (n : Int)) (l.map fun (n : Nat) => C.int .u8 (n : Int)) else some false) else none) = _
  rw [if_pos rfl, beq_self_eq_true, cond_true, eqInts_u8 l]
theorem blk_fill (n : Nat) : BlkOk (fillB n) := by
 refine ⟨fillB_len n, fillB_flat n, ?_⟩
 have : fillB n = ([n % 256, n / 256 % 256, n / 65536 % 256, n / 16777216 % 256] ++ List.replicate 251 0 ++ [n % 256]).map fun (n : Nat) => C.int .u8 (n : Int) := by
  simp only [fillB, List.map_append, List.map_cons, List.map_nil, List.map_replicate]
  rfl
 rw [this]
 exact eqInts_u8 _
theorem Good.init (m e : Nat) (md : Int) : Good m e md 0 [] [] [] (List.replicate m zB) := by
 refine ⟨List.length_replicate .., fun j hj => ⟨zB, ?_, blk_zB, fun _ => ⟨rfl, .inr ⟨rfl, rfl⟩⟩, fun _ => ⟨rfl, .inr ⟨rfl, rfl⟩⟩⟩, fun k y h => (by cases h), fun k y h => (by cases h), fun k => .inl rfl, Nat.le_refl _, Nat.le_refl _, fun p hp => (by cases hp), rfl, rfl, rfl⟩
 rw [List.getElem?_replicate, if_pos hj]
theorem Good.data {m e : Nat} {md : Int} {i : Nat} {ld lt lc : Ents} {L : List (List C)} (G : Good m e md i ld lt lc L) {j : Nat} (hj : j < m) (ho : ¬(md = 3 ∨ j % 2 = 0)) {x : List C} (hx : BlkOk x) (hm : 2 + e + m ≤ 4000) : Good m e md (i + 1) (updE (zN e j) (.int .i64 (zN e j) :: x) ld) lt lc (L.set j x) := by
 obtain ⟨len, el, dk, ck, tk, tl, dl, kf, fd, ft, fc⟩ := G
 have xf : (C.int .i64 (zN e j) :: x).all C.flat = true := by show (true && x.all C.flat) = true; rw [hx.2.1]; rfl
 refine ⟨by rw [List.length_set]; exact len, fun k hk => ?_, fun k y h => ?_, ck, tk, by omega, ?_, fun p hp => ?_, flat_upd xf fd, ft, fc⟩
 ·by_cases e1 : k = j
  ·subst e1
   refine ⟨x, by rw [List.getElem?_set, if_pos rfl, if_pos (by omega)], hx, fun h => absurd h ho, fun _ => ?_⟩
   obtain ⟨y, _, _, _, q⟩ := el k hk
   exact ⟨(q ho).1, .inl (by rw [look_upd, if_pos rfl])⟩
  ·obtain ⟨y, hy, by', q1, q2⟩ := el k hk
   have ne : zN e k ≠ zN e j := fun h => e1 (zN_inj h)
   refine ⟨y, by rw [List.getElem?_set, if_neg (Ne.symm e1)]; exact hy, by', fun h => ?_, fun h => ?_⟩
   ·rw [look_upd, if_neg ne]; exact q1 h
   ·rw [look_upd, if_neg ne]; exact q2 h
 ·rw [look_upd] at h
  split at h
  ·rename_i e1
   cases h
   exact ⟨by rw [List.length_cons, hx.1], xf, j, hj, e1⟩
  ·exact dk k y h
 ·rw [upd_len]
  split <;> omega
 ·rcases upd_mem hp with rfl | h
  ·unfold keyFits zN
   rw [decide_eq_true (by omega), decide_eq_true (by omega)]
   rfl
  ·exact kf p h
theorem Good.txn {m e : Nat} {md : Int} {i : Nat} {ld lt lc : Ents} {L : List (List C)} (G : Good m e md i ld lt lc L) {j : Nat} (hj : j < m) (ho : md = 3 ∨ j % 2 = 0) {x : List C} (hx : BlkOk x) : Good m e md (i + 1) ld (updE (zN e j) [] lt) (updE (zN e j) x lc) (L.set j x) := by
 obtain ⟨len, el, dk, ck, tk, tl, dl, kf, fd, ft, fc⟩ := G
 refine ⟨by rw [List.length_set]; exact len, fun k hk => ?_, dk, fun k y h => ?_, fun k => ?_, ?_, by omega, kf, fd, flat_upd rfl ft, flat_upd hx.2.1 fc⟩
 ·by_cases e1 : k = j
  ·subst e1
   refine ⟨x, by rw [List.getElem?_set, if_pos rfl, if_pos (by omega)], hx, fun _ => ?_, fun h => absurd ho h⟩
   obtain ⟨y, _, _, q, _⟩ := el k hk
   exact ⟨(q ho).1, .inl (by rw [look_upd, if_pos rfl])⟩
  ·obtain ⟨y, hy, by', q1, q2⟩ := el k hk
   have ne : zN e k ≠ zN e j := fun h => e1 (zN_inj h)
   refine ⟨y, by rw [List.getElem?_set, if_neg (Ne.symm e1)]; exact hy, by', fun h => ?_, fun h => ?_⟩
   ·rw [look_upd, if_neg ne]; exact q1 h
   ·rw [look_upd, if_neg ne]; exact q2 h
 ·rw [look_upd] at h
  split at h
  ·cases h
   exact ⟨hx.1, hx.2.1⟩
  ·exact ck k y h
 ·rw [look_upd]
  split
  ·exact .inr rfl
  ·exact tk k
 ·rw [upd_len]
  split <;> omega
structure Done (m e : Nat) (lc lm : Ents) (L : List (List C)) : Prop where
 el : ∀ j, j < m → ∃ x, L[j]? = some x ∧ BlkOk x ∧ (lookE (zN e j) lc = some x ∨ (lookE (zN e j) lc = none ∧ ((∃ d, lookE (zN e j) lm = some (x ++ [.bool d])) ∨ (lookE (zN e j) lm = none ∧ x = zB))))
 ck : ∀ k y, lookE k lc = some y → y.length = 256 ∧ y.all C.flat = true
 cm : ∀ k y, lookE k lm = some y → y.length = 257 ∧ y.all C.flat = true
 fm : flatE lm = true
theorem Good.done {m e : Nat} {md : Int} {i : Nat} {ld lt lc : Ents} {L : List (List C)} (G : Good m e md i ld lt lc L) : Done m e lc (wrE ld (keysE ld) []) L := by
 obtain ⟨len, el, dk, ck, tk, tl, dl, kf, fd, ft, fc⟩ := G
 refine ⟨fun j hj => ?_, ck, fun k y h => ?_, wrE_flat fd _ rfl⟩
 ·obtain ⟨x, hx, bx, q1, q2⟩ := el j hj
  refine ⟨x, hx, bx, ?_⟩
  by_cases ho : md = 3 ∨ j % 2 = 0
  ·obtain ⟨a, b | ⟨b, rfl⟩⟩ := q1 ho
   ·exact .inl b
   ·refine .inr ⟨b, .inr ⟨?_, rfl⟩⟩
    rw [wrE_look, if_neg (fun h => by rw [keysE_mem, a] at h; cases h)]
    rfl
  ·obtain ⟨a, b | ⟨b, rfl⟩⟩ := q2 ho
   ·refine .inr ⟨a, .inl ⟨true, ?_⟩⟩
    rw [wrE_look, if_pos (by rw [keysE_mem, b]; rfl), b]
    rfl
   ·refine .inr ⟨a, .inr ⟨?_, rfl⟩⟩
    rw [wrE_look, if_neg (fun h => by rw [keysE_mem, b] at h; cases h)]
    rfl
 ·rw [wrE_look] at h
  split at h
  ·rename_i hk
   rw [keysE_mem] at hk
   cases e1 : lookE k ld with
   | none => rw [e1] at hk; cases hk
   | some w =>
    obtain ⟨wl, wf, _⟩ := dk k w e1
    rw [e1] at h
    cases h
    refine ⟨?_, ?_⟩
    ·show (w.drop 1 ++ [C.bool true]).length = 257
     rw [List.length_append, List.length_drop, List.length_singleton]; omega
    ·show (w.drop 1 ++ [C.bool true]).all C.flat = true
     rw [List.all_append, flat_drop 1 wf]; rfl
  ·cases h
theorem Done.read {m e : Nat} {lc lm : Ents} {L : List (List C)} (D : Done m e lc lm L) {z : Int} (hz : lookE z lm = none) : Done m e lc (updE z (zB ++ [.bool false]) lm) L := by
 obtain ⟨el, ck, cm, fm⟩ := D
 have zf : (zB ++ [C.bool false]).all C.flat = true := by kernel_rfl
 refine ⟨fun j hj => ?_, ck, fun k y h => ?_, flat_upd zf fm⟩
 ·obtain ⟨x, hx, bx, q⟩ := el j hj
  refine ⟨x, hx, bx, ?_⟩
  rcases q with q | ⟨q, r⟩
  ·exact .inl q
  ·refine .inr ⟨q, ?_⟩
   by_cases e1 : zN e j = z
   ·subst e1
    rcases r with ⟨d, r⟩ | ⟨r, rfl⟩
    ·rw [hz] at r; cases r
    ·exact .inl ⟨false, by rw [look_upd, if_pos rfl]⟩
   ·rcases r with ⟨d, r⟩ | ⟨r, rfl⟩
    ·exact .inl ⟨d, by rw [look_upd, if_neg e1]; exact r⟩
    ·exact .inr ⟨by rw [look_upd, if_neg e1]; exact r, rfl⟩
 ·rw [look_upd] at h
  split at h
  ·cases h
   exact ⟨by kernel_rfl, zf⟩
  ·exact cm k y h
theorem ours_in {a b c e j : Nat} (F : Fine a b c e) (hj : j < a * b) : oursB a b c e (zN e j) = true := by
 obtain ⟨g1, g2, g3, g4, g5, g6, g7, g8, g9, g10, g11⟩ := F
 unfold oursB zN
 rw [decide_eq_true (by omega), Int.toNat_natCast]
 unfold whatN
 rw [if_neg (by omega), if_neg (by omega), if_neg (by omega), if_neg (by omega)]
 split
 ·rfl
 ·split
  ·rfl
  ·split <;> rfl
theorem ours_iff {a b c e : Nat} (F : Fine a b c e) (z : Int) : oursB a b c e z = (decide (z = 0) || decide (z = 1) || (decide (((2 + e : Nat) : Int) ≤ z) && decide (z < ((2 + e + a * b : Nat) : Int)))) := by
 have F' := F
 obtain ⟨g1, g2, g3, g4, g5, g6, g7, g8, g9, g10, g11⟩ := F'
 by_cases z0 : 0 ≤ z
 ·obtain ⟨n, rfl⟩ := Int.eq_ofNat_of_zero_le z0
  by_cases h1 : 2 + e ≤ n ∧ n < 2 + e + a * b
  ·have := ours_in (j := n - (2 + e)) F (by omega)
   unfold zN at this
   rw [show 2 + e + (n - (2 + e)) = n by omega] at this
   rw [this, decide_eq_true (show ((2 + e : Nat) : Int) ≤ (n : Int) by omega), decide_eq_true (show (n : Int) < ((2 + e + a * b : Nat) : Int) by omega)]
   simp
  ·have h2 : (decide (((2 + e : Nat) : Int) ≤ (n : Int)) && decide ((n : Int) < ((2 + e + a * b : Nat) : Int))) = false := by
    by_cases h3 : 2 + e ≤ n
    ·rw [decide_eq_false (show ¬(n : Int) < ((2 + e + a * b : Nat) : Int) by omega), Bool.and_false]
    ·rw [decide_eq_false (show ¬((2 + e : Nat) : Int) ≤ (n : Int) by omega), Bool.false_and]
   rw [h2, Bool.or_false]
   unfold oursB
   rw [decide_eq_true z0, Int.toNat_natCast]
   unfold whatN
   by_cases n0 : n = 0
   ·subst n0; rfl
   ·by_cases n1 : n = 1
    ·subst n1; rfl
    ·rw [if_neg n0, if_neg n1, decide_eq_false (show ¬(n : Int) = 0 by omega), decide_eq_false (show ¬(n : Int) = 1 by omega)]
     by_cases h3 : n < 2 + e
     ·rw [if_pos h3]; rfl
     ·rw [if_neg h3, if_pos (by omega)]; rfl
 ·unfold oursB
  rw [decide_eq_false z0, decide_eq_false (show ¬z = 0 by omega), decide_eq_false (show ¬z = 1 by omega), decide_eq_false (show ¬((2 + e : Nat) : Int) ≤ z by omega)]
  rfl
end Go.Proofs.YtpiljmilaelfnaaGreatDoor
