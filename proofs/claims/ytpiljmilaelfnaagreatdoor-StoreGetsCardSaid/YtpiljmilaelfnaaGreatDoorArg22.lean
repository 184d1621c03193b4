/- StoreGets: what it is given, as the evaluator has it. -/
import Derived.Test.YtpiljmilaelfnaaGreatDoorLaw22
import Derived.Test.YtpiljmilaelfnaaGreatDoorEvC
set_option linter.unusedSimpArgs false
set_option linter.unusedVariables false
set_option linter.unusedSectionVars false
set_option maxRecDepth 100000
namespace Go.Proofs.YtpiljmilaelfnaaGreatDoor
open Go.Ev
theorem open_puts {H : Type} {enc : TypeId × Value → H} {W : World} {fuel : Nat} {cs : List Value} {x : DataW H × List MemPlace} (h : DataW.trod enc Tryz.prog W 0 (fun _ => true) true fuel 24 cs = some x) :
  cs = [.slice none 0 0] ∨ ∃ b o sp len cap, cs = [.slice (some ⟨b, o, sp⟩) len cap] ∧ len ≤ cap ∧ (cap = 0 ∨ sp = none ∧ ∃ cl t fr, W.heap[b]? = some (.cells cl t fr) ∧ o + cap * 2 ≤ cl.size ∧ ∀ i, i < cap → ∃ (B : Int) (f : Nat), cl[o + i * 2]? = some (.int .i64 B) ∧ cl[o + i * 2 + 1]? = some (.int .u32 (f : Int))) := by
 rcases DataW.trod_slice Tryz.underlying24 h with ⟨h0, _⟩ | ⟨⟨b, o, sp⟩, len, cap, elems, rest, n, rfl, rfl, _, _, hl, _, hlen, hel, hsp, _⟩
 ·exact .inl h0
 refine .inr ⟨b, o, sp, len, cap, rfl, hl, ?_⟩
 rcases Nat.eq_zero_or_pos cap with c0 | c0
 ·exact .inl c0
 right
 have c2 : Tryz.prog.cellsOf 35 = 2 := by kernel_rfl
 obtain ⟨hrl, hr⟩ := hsp rfl
 rw [c2] at hel hr
 have each : ∀ i, i < cap → ∃ (B : Int) (f : Nat), W.cell? ((⟨b, o, sp⟩ : Addr).add (i * 2)) = some (.int .i64 B) ∧ W.cell? (((⟨b, o, sp⟩ : Addr).add (i * 2)).add 1) = some (.int .u32 (f : Int)) := by
  intro i hi
  have key : ∃ y, (W.cells? 0 ((⟨b, o, sp⟩ : Addr).add (i * 2)) 2).bind (DataW.trod enc Tryz.prog W 0 (fun _ => true) true n 35) = some y := by
   by_cases h1 : i < len
   ·exact ⟨_, (hel i h1).trans (List.getElem?_eq_getElem (by omega))⟩
   ·have := hr (i - len) (by omega)
    rw [show len + (i - len) = i by omega] at this
    exact ⟨_, this.trans (List.getElem?_eq_getElem (by omega))⟩
  obtain ⟨y, hy⟩ := key
  obtain ⟨cs', h1, h2⟩ := Option.bind_eq_some_iff.1 hy
  obtain ⟨hl2, hc⟩ := cells_get h1
  obtain ⟨xs, m, _, _, _, hxl, hf⟩ := DataW.trod_struct Tryz.underlying35 h2
  have f0 := hf 0 _ rfl
  have f1 := hf 1 _ rfl
  have ci : Tryz.prog.cellsOf 3 = 1 := by kernel_rfl
  have cu : Tryz.prog.cellsOf 33 = 1 := by kernel_rfl
  have xl : xs.length = 2 := hxl
  match cs', hl2 with
  | [v0, v1], _ =>
   rw [List.getElem?_eq_getElem (by omega)] at f0 f1
   obtain ⟨B, e1, _, _⟩ := DataW.trod_int Tryz.underlying3 f0
   obtain ⟨F, e2, _, wf⟩ := DataW.trod_int Tryz.underlying33 f1
   have e1' : [v0] = [Value.int .i64 B] := by
    have e3 : (([v0, v1] : List Value).drop 0).take (Tryz.prog.cellsOf 3) = [v0] := by rw [ci]; rfl
    rw [← e3]; exact e1
   have e2' : [v1] = [Value.int .u32 F] := by
    have e3 : (([v0, v1] : List Value).drop 1).take (Tryz.prog.cellsOf 33) = [v1] := by rw [cu]; rfl
    rw [← e3]; exact e2
   cases e1'
   cases e2'
   have F0 := (bounds_u32 wf).1
   obtain ⟨f, rfl⟩ := Int.eq_ofNat_of_zero_le F0
   refine ⟨B, f, ?_, ?_⟩
   ·have := hc 0 (by omega)
    rw [show ((⟨b, o, sp⟩ : Addr).add (i * 2)).add 0 = (⟨b, o, sp⟩ : Addr).add (i * 2) by unfold Addr.add; split <;> simp_all] at this
    exact this
   ·exact hc 1 (by omega)
 obtain ⟨B0, f0, q0, _⟩ := each 0 c0
 have hspot : sp = none := by simpa [Addr.add] using World.cell?_spot q0
 subst hspot
 refine ⟨rfl, ?_⟩
 have at' : ∀ i, (⟨b, o, none⟩ : Addr).add (i * 2) = ⟨b, o + i * 2, none⟩ := fun i => Go.WideShapes.add_plain b o (i * 2)
 rw [at' 0] at q0
 unfold World.cell? at q0
 split at q0
 ·rename_i cl t fr hb
  have hb' : W.heap[b]? = some (.cells cl t fr) := hb
  have cell : ∀ k, W.cell? ⟨b, k, none⟩ = cl[k]? := fun k => by
   unfold World.cell?
   rw [show W.heap[(⟨b, k, none⟩ : Addr).block]? = some (.cells cl t fr) from hb']
   rfl
  have each' : ∀ i, i < cap → ∃ (B : Int) (f : Nat), cl[o + i * 2]? = some (.int .i64 B) ∧ cl[o + i * 2 + 1]? = some (.int .u32 (f : Int)) := fun i hi => by
   obtain ⟨B, f, e1, e2⟩ := each i hi
   rw [at', cell] at e1
   rw [at', Go.WideShapes.add_plain, cell] at e2
   exact ⟨B, f, e1, e2⟩
  refine ⟨cl, t, fr, hb', ?_, each'⟩
  obtain ⟨B, f, _, e2⟩ := each' (cap - 1) (by omega)
  have := (Array.getElem?_eq_some_iff.1 e2).1
  omega
 ·cases q0
def putOf (cl : Array Value) (o i : Nat) : List C := match cl[o + i * 2]?, cl[o + i * 2 + 1]? with
 | some (.int .i64 B), some (.int .u32 F) => [.int .i64 B, .int .u32 F]
 | _, _ => []
noncomputable def hRow (PL : List (List C)) : Go.Ev.H := ⟨Tree.set .nil 1 (.row 2 PL true), 2⟩
def hNone : Go.Ev.H := ⟨.nil, 2⟩
theorem hRow_get {PL : List (List C)} {n : Nat} {o : O} (e : (hRow PL).get n = some o) : n = 1 ∧ o = .row 2 PL true := by
 have e' : (Tree.set .nil 1 (O.row 2 PL true)).get n = some o := e
 rw [Tree.get_set] at e'
 split at e'
 ·rename_i h1; cases e'; exact ⟨h1, rfl⟩
 ·rw [Tree.get_nil] at e'; cases e'
theorem hNone_get {n : Nat} {o : O} (e : hNone.get n = some o) : False := by
 have e' : (Tree.nil : Tree O).get n = some o := e
 rw [Tree.get_nil] at e'
 cases e'
def rArg (l : Go.Ev.Loc) : Go.Ev.Ren := fun n => if n = 1 then some l else if n = 0 then some ⟨0, 0, 16⟩ else none
theorem rArg_dom (l : Go.Ev.Loc) : Dom (rArg l) 2 := fun n hn => by
 unfold rArg
 rw [if_neg (by omega), if_neg (by omega)]
theorem glob0 (l : Go.Ev.Loc) : ∀ g n, K.globs.get g = some n → ∃ r, rArg l n = some ⟨g, 0, r⟩ := fun g n h => by
 obtain ⟨rfl, rfl⟩ := glob_set gl h
 exact ⟨16, rfl⟩
section
variable (Hh : Hearts K Tryz.prog)
include Hh
theorem calls_law {H : Type} {enc : TypeId × Value → H} {W : World} {fuel : Nat} {v2 : Value} {x : DataW H × List MemPlace} (h : DataW.trod enc Tryz.prog W 0 (fun _ => true) true fuel 24 [v2] = some x) (a b c d md other : Int) (o1 : other < 9223372036854775808) :
  Calls Tryz.prog 3 #[.agg #[.int .i64 a, .int .i64 b, .int .i64 c, .int .i64 d], .int .u8 md, v2, .int .i64 other] W fun e W' => e = .returned (.bool true) ∧ Go.RowKit.Below W.heap.size W W' := by
 rcases open_puts h with h0 | ⟨bk, o, sp, len, cap, h0, hlc, hc⟩
 ·cases h0
  obtain ⟨h', cc⟩ := lawN Hh (h := hNone) (fun m o hm => (hNone_get hm).elim) a b c d md other o1
  exact callsOk_args (ρ := rArg ⟨0, 0, 0⟩) (vals := [.agg #[.int .i64 a, .int .i64 b, .int .i64 c, .int .i64 d], .int .u8 md, .slice none 0 0, .int .i64 other]) ⟨glob0 _, fun n o e => (hNone_get e).elim, fun n n' o o' l l' _ e _ _ _ => (hNone_get e).elim⟩ (rArg_dom _) (fun n o e => (hNone_get e).elim) cc
   ⟨⟨_, rfl, rfl, rfl, rfl, rfl, trivial⟩, rfl, rfl, rfl, trivial⟩
 ·cases h0
  rcases hc with c0 | ⟨rfl, cl, t, fr, hb, hsz, each⟩
  ·subst c0
   obtain rfl : len = 0 := by omega
   obtain ⟨h', cc⟩ := lawZ Hh (pl := 1) (h := hNone) (fun m o hm => (hNone_get hm).elim) a b c d md other o1
   exact callsOk_args (ρ := rArg ⟨0, 0, 0⟩) (vals := [.agg #[.int .i64 a, .int .i64 b, .int .i64 c, .int .i64 d], .int .u8 md, .slice (some ⟨bk, o, sp⟩) 0 0, .int .i64 other]) ⟨glob0 _, fun n o e => (hNone_get e).elim, fun n n' o o' l l' _ e _ _ _ => (hNone_get e).elim⟩ (rArg_dom _) (fun n o e => (hNone_get e).elim) cc
    ⟨⟨_, rfl, rfl, rfl, rfl, rfl, trivial⟩, rfl, ⟨⟨0, 0, 0⟩, _, _, rfl, rfl, .inl ⟨rfl, rfl⟩⟩, rfl, trivial⟩
  ·have pl : ((List.range len).map (putOf cl o)).length = len := by rw [List.length_map, List.length_range]
   have pe : ∀ i, i < len → ∃ (B : Int) (f : Nat), putOf cl o i = [.int .i64 B, .int .u32 (f : Int)] ∧ cl[o + i * 2]? = some (.int .i64 B) ∧ cl[o + i * 2 + 1]? = some (.int .u32 (f : Int)) := fun i hi => by
    obtain ⟨B, f, e1, e2⟩ := each i (by omega)
    refine ⟨B, f, ?_, e1, e2⟩
    unfold putOf
    rw [e1, e2]
   obtain ⟨h', cc⟩ := lawS Hh (pl := 1) (h := hRow ((List.range len).map (putOf cl o))) (fun m o hm => by rw [(hRow_get hm).1]; exact Nat.lt_succ_self 1) a b c d md other o1 (PL := (List.range len).map (putOf cl o)) (ro := true) (by show (Tree.set .nil 1 _).get 1 = _; rw [Tree.get_set, if_pos rfl]) (Nat.lt_succ_self 1) (fun p hp => by
    obtain ⟨i, hi, rfl⟩ := List.mem_map.1 hp
    obtain ⟨B, f, e1, _⟩ := pe i (List.mem_range.1 hi)
    exact ⟨B, f, e1⟩)
   rw [pl] at cc
   refine callsOk_args (ρ := rArg ⟨bk, o, cl.size⟩) (vals := [.agg #[.int .i64 a, .int .i64 b, .int .i64 c, .int .i64 d], .int .u8 md, .slice (some ⟨bk, o, none⟩) len cap, .int .i64 other]) ⟨glob0 _, fun n o' e => ?_, fun n n' o o' l l' hne e e' _ _ => absurd ((hRow_get e).1.trans (hRow_get e').1.symm) hne⟩ (rArg_dom _) (fun n o e => by rw [(hRow_get e).2]; rfl) cc
    ⟨⟨_, rfl, rfl, rfl, rfl, rfl, trivial⟩, rfl, ⟨⟨bk, o, cl.size⟩, _, _, rfl, rfl, .inr ⟨rfl, hlc, by show o + 0 + cap * 2 ≤ cl.size; omega⟩⟩, rfl, trivial⟩
   obtain ⟨rfl, rfl⟩ := hRow_get e
   refine ⟨⟨bk, o, cl.size⟩, rfl, cl, t, fr, hb, rfl, fun h => (by cases h), fun p hp => ?_, fun k c hk => ?_⟩
   ·obtain ⟨i, hi, rfl⟩ := List.mem_map.1 hp
    obtain ⟨B, f, e1, _⟩ := pe i (List.mem_range.1 hi)
    rw [e1]; rfl
   ·unfold read1 at hk
    rw [List.getElem?_map] at hk
    by_cases hi : k / 2 < len
    ·rw [List.getElem?_range hi] at hk
     obtain ⟨B, f, e1, e2, e3⟩ := pe (k / 2) hi
     simp only [Option.map_some, e1] at hk
     have km : k % 2 = 0 ∨ k % 2 = 1 := by omega
     rcases km with km | km
     ·rw [km] at hk
      cases hk
      refine ⟨_, ?_, rfl⟩
      show cl[o + k]? = _
      rw [show o + k = o + k / 2 * 2 by omega]; exact e2
     ·rw [km] at hk
      cases hk
      refine ⟨_, ?_, rfl⟩
      show cl[o + k]? = _
      rw [show o + k = o + k / 2 * 2 + 1 by omega]; exact e3
    ·rw [List.getElem?_eq_none (by rw [List.length_range]; omega)] at hk
     cases hk
end
end Go.Proofs.YtpiljmilaelfnaaGreatDoor
