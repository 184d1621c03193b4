/- The memory of a store whose handle is open, and of its law: names counted from where fresh began. -/
import Derived.Test.YtpiljmilaelfnaaGreatDoorFre
import Derived.Test.YtpiljmilaelfnaaGreatDoorBeg3
import Derived.Test.YtpiljmilaelfnaaGreatDoorEnd2
set_option linter.unusedSimpArgs false
set_option linter.unusedVariables false
set_option linter.unusedSectionVars false
set_option maxRecDepth 100000
namespace Go.Proofs.YtpiljmilaelfnaaGreatDoor
open Go.Ev
def stN (n : Nat) (kn : Bool) : Stt := ⟨n + 12, n + 20, n + 23, n + 24, .snil, kn⟩
def txN (n : Nat) : Tx := ⟨n + 15, n + 16, n + 17, n + 19, 1, true, 33, 0, .map (n + 25), .map (n + 29), .map (n + 30), .map (n + 31), .ptr (n + 28) 0⟩
def gdN (n a b c e : Nat) (md : Int) : Gd := ⟨a, b, c, e, md, n + 4, n + 8, n + 9, n + 11⟩
def ckN (n : Nat) : Ck := ⟨n + 4, n + 6, n + 7⟩
def dkN (n N : Nat) : Dk := ⟨n + 2, n + 3, N, .snil, 0, 0⟩
structure Mem0 (n a b c e : Nat) (md : Int) (h : Go.Ev.H) : Prop where
 tidy : ∀ m o, h.get m = some o → m < h.next
 nx : n + 33 ≤ h.next
 ht : h.get (n + 20) = some (.row 13 [txL (txN n)] false)
 hg : h.get (n + 12) = some (.row 9 [gdL (gdN n a b c e md)] false)
 hc : h.get (n + 8) = some (.row 3 [ckL (ckN n)] false)
 hd : h.get (n + 4) = some (.row 6 [dkL (dkN n (2 + e + a * b))] false)
 hq : h.get (n + 3) = some (.row 256 (List.replicate (2 + e + a * b) zB) false)
 hli : h.get (n + 11) = some (.row 8 [[.bool true, .int .i64 (a : Int), .int .i64 (b : Int), .int .i64 (c : Int), .int .i64 (e : Int), .bool false, .int .u32 0, .snil]] false)
 hgv : h.get (n + 24) = some (.map [])
 hfr : h.get (n + 17) = some (.map [])
 hod : h.get (n + 16) = some (.map [])
 hrv : h.get (n + 19) = some (.row 1 [[.map (n + 18)]] false)
 hrc : h.get (n + 18) = some (.map [])
 hm : h.get (n + 6) = some (.map [])
structure Mem (n a b c e : Nat) (md : Int) (kn : Bool) (ld lt lc : Ents) (L : List (List C)) (h : Go.Ev.H) : Prop extends Mem0 n a b c e md h where
 hs : h.get (n + 13) = some (.row 8 [stL (stN n kn)] false)
 hdt : h.get (n + 23) = some (.map (ents ld))
 hto : h.get (n + 25) = some (.map (ents lt))
 hch : h.get (n + 15) = some (.map (ents lc))
 hmr : h.get (n + 32) = some (.row 256 L false)
theorem Mem0.new {n a b c e : Nat} {md : Int} {h : Go.Ev.H} (M : Mem0 n a b c e md h) (o : O) : Mem0 n a b c e md (h.new o) := by
 obtain ⟨f0, f1, f2, f3, f4, f5, f6, f7, f8, f9, f10, f11, f12, f13⟩ := M
 refine ⟨fun m o' hm => ?_, ?_, ?_, ?_, ?_, ?_, ?_, ?_, ?_, ?_, ?_, ?_, ?_, ?_⟩
 ·rw [H.next_new]
  rw [H.get_new] at hm
  split at hm
  ·omega
  ·have := f0 m o' hm; omega
 ·rw [H.next_new]; omega
 all_goals (rw [get_new_ne (by omega)]; assumption)
theorem Mem.new {n a b c e : Nat} {md : Int} {kn : Bool} {ld lt lc : Ents} {L : List (List C)} {h : Go.Ev.H} (M : Mem n a b c e md kn ld lt lc L h) (o : O) : Mem n a b c e md kn ld lt lc L (h.new o) := by
 obtain ⟨f0, g1, g2, g3, g4, g5⟩ := M
 have := f0.nx
 refine ⟨f0.new o, ?_, ?_, ?_, ?_, ?_⟩
 all_goals (rw [get_new_ne (by omega)]; assumption)
theorem Mem0.put {n a b c e : Nat} {md : Int} {h : Go.Ev.H} (M : Mem0 n a b c e md h) {m : Nat} (o : O) (hm : m = n + 13 ∨ m = n + 23 ∨ m = n + 25 ∨ m = n + 15 ∨ m = n + 32) : Mem0 n a b c e md (h.put m o) := by
 obtain ⟨f0, f1, f2, f3, f4, f5, f6, f7, f8, f9, f10, f11, f12, f13⟩ := M
 refine ⟨fun j o' hj => ?_, ?_, ?_, ?_, ?_, ?_, ?_, ?_, ?_, ?_, ?_, ?_, ?_, ?_⟩
 ·rw [H.next_put]
  rw [H.get_put] at hj
  split at hj
  ·omega
  ·exact f0 j o' hj
 ·exact f1
 all_goals (rw [get_put_ne (by omega)]; assumption)
theorem Mem.data {n a b c e : Nat} {md : Int} {kn : Bool} {ld lt lc : Ents} {L : List (List C)} {h : Go.Ev.H} (M : Mem n a b c e md kn ld lt lc L h) (ld' : Ents) : Mem n a b c e md kn ld' lt lc L (h.put (n + 23) (.map (ents ld'))) := by
 obtain ⟨f0, g1, g2, g3, g4, g5⟩ := M
 refine ⟨f0.put _ (by omega), ?_, get_put_self _ _ _, ?_, ?_, ?_⟩
 all_goals (rw [get_put_ne (by omega)]; assumption)
theorem Mem.row {n a b c e : Nat} {md : Int} {kn : Bool} {ld lt lc : Ents} {L : List (List C)} {h : Go.Ev.H} (M : Mem n a b c e md kn ld lt lc L h) (L' : List (List C)) : Mem n a b c e md kn ld lt lc L' (h.put (n + 32) (.row 256 L' false)) := by
 obtain ⟨f0, g1, g2, g3, g4, g5⟩ := M
 refine ⟨f0.put _ (by omega), ?_, ?_, ?_, ?_, get_put_self _ _ _⟩
 all_goals (rw [get_put_ne (by omega)]; assumption)
noncomputable def putM (n : Nat) (lt lc : Ents) (h : Go.Ev.H) : Go.Ev.H := (((h.put (n + 13) (.row 8 [stL (stN n false)] false)).put (n + 25) (.map (ents lt))).put (n + 15) (.map (ents lc))).put (n + 17) (.map [])
theorem Mem.txn {n a b c e : Nat} {md : Int} {kn : Bool} {ld lt lc : Ents} {L : List (List C)} {h : Go.Ev.H} (M : Mem n a b c e md kn ld lt lc L h) (lt' lc' : Ents) : Mem n a b c e md false ld lt' lc' L (putM n lt' lc' h) := by
 obtain ⟨f0, g1, g2, g3, g4, g5⟩ := M
 have k0 := ((f0.put (m := n + 13) (.row 8 [stL (stN n false)] false) (by omega)).put (m := n + 25) (.map (ents lt')) (by omega)).put (m := n + 15) (.map (ents lc')) (by omega)
 have k1 : Mem0 n a b c e md (putM n lt' lc' h) := by
  obtain ⟨f0, f1, f2, f3, f4, f5, f6, f7, f8, f9, f10, f11, f12, f13⟩ := k0
  unfold putM
  refine ⟨fun j o' hj => ?_, ?_, ?_, ?_, ?_, ?_, ?_, ?_, ?_, get_put_self _ _ _, ?_, ?_, ?_, ?_⟩
  ·rw [H.next_put]
   rw [H.get_put] at hj
   split at hj
   ·have := f0 _ _ f9; omega
   ·exact f0 j o' hj
  ·exact f1
  all_goals (rw [get_put_ne (by omega)]; assumption)
 unfold putM at k1 ⊢
 refine ⟨k1, ?_, ?_, ?_, ?_, ?_⟩
 ·rw [get_put_ne (by omega), get_put_ne (by omega), get_put_ne (by omega), get_put_self]
 ·rw [get_put_ne (by omega), get_put_ne (by omega), get_put_ne (by omega), get_put_ne (by omega)]; exact g2
 ·rw [get_put_ne (by omega), get_put_ne (by omega), get_put_self]
 ·rw [get_put_ne (by omega), get_put_self]
 ·rw [get_put_ne (by omega), get_put_ne (by omega), get_put_ne (by omega), get_put_ne (by omega)]; exact g5
def stB (n : Nat) : Stt := ⟨n + 12, n + 20, n + 21, n + 22, .snil, false⟩
def txB (n : Nat) : Tx := ⟨n + 15, n + 16, n + 17, n + 19, 1, false, 0, 0, .mnil, .mnil, .mnil, .mnil, .pnil⟩
noncomputable def freM (h : Go.Ev.H) (a b c e : Nat) (md : Int) : Go.Ev.H := overM (h.new (.row 4 [geoL a b c e] false)) a b c e md
noncomputable def begun (h : Go.Ev.H) (a b c e : Nat) (md : Int) : Go.Ev.H := (begM (cleanM (freM h a b c e md) (h.next + 13) (stB h.next)) (h.next + 20) (txB h.next) 33 0).new (.row 256 (List.replicate (a * b) zB) false)
set_option maxHeartbeats 4000000 in
theorem start (h : Go.Ev.H) (tidy : ∀ m o, h.get m = some o → m < h.next) (a b c e : Nat) (md : Int) : Mem h.next a b c e md false [] [] [] (List.replicate (a * b) zB) (begun h a b c e md) := by
 have td : ∀ m o, (begun h a b c e md).get m = some o → m < (begun h a b c e md).next := by
  have tn : ∀ {h : Go.Ev.H} (o : O), (∀ m o, h.get m = some o → m < h.next) → ∀ m o', (h.new o).get m = some o' → m < (h.new o).next := fun {h} o t m o' e => by
   rw [H.next_new]
   rw [H.get_new] at e
   split at e
   ·omega
   ·have := t m o' e; omega
  have tp : ∀ {h : Go.Ev.H} (j : Nat) (o : O), j < h.next → (∀ m o, h.get m = some o → m < h.next) → ∀ m o', (h.put j o).get m = some o' → m < (h.put j o).next := fun {h} j o lj t m o' e => by
   rw [H.next_put]
   rw [H.get_put] at e
   split at e
   ·omega
   ·exact t m o' e
  unfold begun begM cloneM cleanM freM overM newSt
  repeat' (first | exact tidy | refine tn _ ?_ | refine tp _ _ (by simp only [H.next_new, H.next_put]; omega) ?_)
 refine ⟨⟨td, Nat.le_refl _, ?_, ?_, ?_, ?_, ?_, ?_, ?_, ?_, ?_, ?_, ?_, ?_⟩, ?_, ?_, ?_, ?_, ?_⟩
 all_goals (unfold begun begM cloneM cleanM freM overM newSt; simp (discharger := omega) only [H.get_put, H.get_new, H.next_new, H.next_put, if_neg, if_pos]; rfl)
end Go.Proofs.YtpiljmilaelfnaaGreatDoor
