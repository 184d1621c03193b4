/- VfsNil: what it is given, as the evaluator has it; the law. -/
import Derived.Test.YtdnkofpkkebefaaGreatDoorAw31
import Derived.Test.YtdnkofpkkebefaaGreatDoorEvD
import Derived.KernelRfl
set_option linter.unusedSimpArgs false
set_option linter.unusedVariables false
set_option linter.unusedSectionVars false
set_option maxRecDepth 100000
namespace Go.Proofs.YtdnkofpkkebefaaGreatDoor
open Go.Ev Go.ChangeShapes Go.WideShapes
def BytesOk (v : Value) : Prop := v = .slice none 0 0 ∨ ∃ b o sp len cap, v = .slice (some ⟨b, o, sp⟩) len cap ∧ len ≤ cap ∧ (cap = 0 ∨ sp = none)
theorem open_bytes {H : Type} {enc : TypeId × Value → H} {W : World} {fuel : Nat} {cs : List Value} {x : DataW H × List MemPlace} (h : DataW.trod enc Tryz.prog W 0 (fun _ => true) true fuel 31 cs = some x) : ∃ v, cs = [v] ∧ BytesOk v := by
 rcases DataW.trod_slice Tryz.underlying31 h with ⟨h0, _⟩ | ⟨⟨b, o, sp⟩, len, cap, elems, rest, n, rfl, rfl, _, _, hl, _, hlen, hel, hsp, _⟩
 ·exact ⟨_, h0, .inl rfl⟩
 refine ⟨_, rfl, .inr ⟨b, o, sp, len, cap, rfl, hl, ?_⟩⟩
 rcases Nat.eq_zero_or_pos cap with c0 | c0
 ·exact .inl c0
 right
 have c2 : Tryz.prog.cellsOf 5 = 1 := by kernel_rfl
 obtain ⟨hrl, hr⟩ := hsp rfl
 rw [c2] at hel hr
 have key : ∃ y, (W.cells? 0 ((⟨b, o, sp⟩ : Addr).add (0 * 1)) 1).bind (DataW.trod enc Tryz.prog W 0 (fun _ => true) true n 5) = some y := by
  by_cases h1 : 0 < len
  ·exact ⟨_, (hel 0 h1).trans (List.getElem?_eq_getElem (by omega))⟩
  ·have := hr (0 - len) (by omega)
   rw [show len + (0 - len) = 0 by omega] at this
   exact ⟨_, this.trans (List.getElem?_eq_getElem (by omega))⟩
 obtain ⟨y, hy⟩ := key
 obtain ⟨cs', h1, h2⟩ := Option.bind_eq_some_iff.1 hy
 obtain ⟨hl2, hc⟩ := cells_get h1
 have q0 := hc 0 (by omega)
 rw [List.getElem?_eq_getElem (by omega)] at q0
 have := World.cell?_spot q0
 simpa [Addr.add] using this
theorem open_op {H : Type} {enc : TypeId × Value → H} {W : World} {base b0 : Nat} {r : Reach} {v : Value} {d : DataW H} {p : List MemPlace} (hv : Value.okWide Tryz.prog W r b0 39 v) (h : DataW.Trod enc Tryz.prog W base (fun _ => true) true 39 v d p) (hb : base = 0) : ∃ (k : Int) (s1 s2 : ByteArray) (a b c : Int) (v6 : Value), v = .agg #[.int .u8 k, .string s1, .string s2, .int .i64 a, .int .i64 b, .int .i64 c, v6] ∧ BytesOk v6 := by
 subst hb
 obtain ⟨cs, rfl, _⟩ := okWide_struct Tryz.underlying39 hv
 obtain ⟨fuel, hf0⟩ := h
 have hf : DataW.trod enc Tryz.prog W 0 (fun _ => true) true fuel 39 cs.toList = _ := hf0
 obtain ⟨Lc, hLc⟩ : ∃ l, cs.toList = l := ⟨_, rfl⟩
 rw [hLc] at hf
 obtain ⟨xs, m, _, _, hl, hlen, hfl⟩ := DataW.trod_struct Tryz.underlying39 hf
 have xl : xs.length = 7 := hlen
 have c7 : Tryz.prog.cellsOf 39 = 7 := by kernel_rfl
 have cb : Tryz.prog.cellsOf 5 = 1 := by kernel_rfl
 have cst : Tryz.prog.cellsOf 9 = 1 := by kernel_rfl
 have ci : Tryz.prog.cellsOf 3 = 1 := by kernel_rfl
 have ct : Tryz.prog.cellsOf 31 = 1 := by kernel_rfl
 have k0 := hfl 0 _ rfl
 have k1 := hfl 1 _ rfl
 have k2 := hfl 2 _ rfl
 have k3 := hfl 3 _ rfl
 have k4 := hfl 4 _ rfl
 have k5 := hfl 5 _ rfl
 have k6 := hfl 6 _ rfl
 rw [List.getElem?_eq_getElem (by omega)] at k0 k1 k2 k3 k4 k5 k6
 have l7 : Lc.length = 7 := hl.trans c7
 match Lc, l7 with
 | [u0, u1, u2, u3, u4, u5, u6], _ =>
  have e0 : (([u0, u1, u2, u3, u4, u5, u6] : List Value).drop 0).take (Tryz.prog.cellsOf 5) = [u0] := by rw [cb]; rfl
  have e1 : (([u0, u1, u2, u3, u4, u5, u6] : List Value).drop 1).take (Tryz.prog.cellsOf 9) = [u1] := by rw [cst]; rfl
  have e2 : (([u0, u1, u2, u3, u4, u5, u6] : List Value).drop 2).take (Tryz.prog.cellsOf 9) = [u2] := by rw [cst]; rfl
  have e3 : (([u0, u1, u2, u3, u4, u5, u6] : List Value).drop 3).take (Tryz.prog.cellsOf 3) = [u3] := by rw [ci]; rfl
  have e4 : (([u0, u1, u2, u3, u4, u5, u6] : List Value).drop 4).take (Tryz.prog.cellsOf 3) = [u4] := by rw [ci]; rfl
  have e5 : (([u0, u1, u2, u3, u4, u5, u6] : List Value).drop 5).take (Tryz.prog.cellsOf 3) = [u5] := by rw [ci]; rfl
  have e6 : (([u0, u1, u2, u3, u4, u5, u6] : List Value).drop 6).take (Tryz.prog.cellsOf 31) = [u6] := by rw [ct]; rfl
  have k0' : DataW.trod enc Tryz.prog W 0 (fun _ => true) true m 5 [u0] = _ := e0 ▸ k0
  have k1' : DataW.trod enc Tryz.prog W 0 (fun _ => true) true m 9 [u1] = _ := e1 ▸ k1
  have k2' : DataW.trod enc Tryz.prog W 0 (fun _ => true) true m 9 [u2] = _ := e2 ▸ k2
  have k3' : DataW.trod enc Tryz.prog W 0 (fun _ => true) true m 3 [u3] = _ := e3 ▸ k3
  have k4' : DataW.trod enc Tryz.prog W 0 (fun _ => true) true m 3 [u4] = _ := e4 ▸ k4
  have k5' : DataW.trod enc Tryz.prog W 0 (fun _ => true) true m 3 [u5] = _ := e5 ▸ k5
  have k6' : DataW.trod enc Tryz.prog W 0 (fun _ => true) true m 31 [u6] = _ := e6 ▸ k6
  obtain ⟨⟨z0, rfl, _⟩, _⟩ := kinds_of 8 (show kinds Tryz.prog 8 5 = some [.int .u8] by kernel_rfl) k0'
  obtain ⟨⟨z1, rfl⟩, _⟩ := kinds_of 8 (show kinds Tryz.prog 8 9 = some [.str] by kernel_rfl) k1'
  obtain ⟨⟨z2, rfl⟩, _⟩ := kinds_of 8 (show kinds Tryz.prog 8 9 = some [.str] by kernel_rfl) k2'
  obtain ⟨⟨z3, rfl, _⟩, _⟩ := kinds_of 8 (show kinds Tryz.prog 8 3 = some [.int .i64] by kernel_rfl) k3'
  obtain ⟨⟨z4, rfl, _⟩, _⟩ := kinds_of 8 (show kinds Tryz.prog 8 3 = some [.int .i64] by kernel_rfl) k4'
  obtain ⟨⟨z5, rfl, _⟩, _⟩ := kinds_of 8 (show kinds Tryz.prog 8 3 = some [.int .i64] by kernel_rfl) k5'
  obtain ⟨v6, e6', ok⟩ := open_bytes k6'
  cases e6'
  exact ⟨z0, z1, z2, z3, z4, z5, _, by congr 1; rw [← Array.toList_inj, hLc], ok⟩
noncomputable def hArg : Go.Ev.H := ⟨hBegin.m, 2⟩
def rArg (l : Go.Ev.Loc) : Go.Ev.Ren := fun n => if n = 1 then some l else if n = 0 then some ⟨0, 0, 16⟩ else none
theorem rArg_dom (l : Go.Ev.Loc) : Dom (rArg l) 2 := fun n hn => by
 unfold rArg
 rw [if_neg (by omega), if_neg (by omega)]
theorem rep_arg {W : World} {cs : Array Value} {t : TypeId} {fr : Nat × Nat} (hb : W.heap[0]? = some (.cells cs t fr)) (hcs : cs.toList = steps16.map (Value.int .u32)) (l : Go.Ev.Loc) : Rep K (rArg l) hArg W := by
 have R := rep_begin gl hb hcs
 refine ⟨fun g n h => ?_, fun n o h => ?_, fun n n' o o' l l' hne h h' _ _ => ?_⟩
 ·obtain ⟨rfl, rfl⟩ := glob_set gl h
  exact ⟨16, rfl⟩
 ·obtain ⟨l0, hl0, hor⟩ := R.obj n o h
  obtain ⟨rfl, rfl⟩ := hBegin_get h
  refine ⟨l0, hl0, ?_⟩
  have hs : (O.row 16 [steps16.map (C.int .u32)] true).simple = true := rfl
  exact (oRel_ren (σ := fun _ => 0) (ρ := rArg l) (w := W) hs l0).2 ((oRel_ren (σ := fun _ => 0) (ρ := rBegin 0) (w := W) hs l0).1 hor)
 ·obtain ⟨rfl, _⟩ := hBegin_get h
  obtain ⟨rfl, _⟩ := hBegin_get h'
  exact absurd rfl hne
theorem runsNil (k : Int) (s1 s2 : List UInt8) (a b c md : Int) (S : Go.Ev.C) : Go.Ev.isTrue (evX K xawK 100000 (.call 5 [.g [.int .u8 k, .str s1, .str s2, .int .i64 a, .int .i64 b, .int .i64 c, S], .c (.int .u8 md)] hArg)) = true := by kernel_rfl
section
variable (Hh : Hearts K Tryz.prog)
include Hh
theorem calls_nil {W : World} {cs : Array Value} {t : TypeId} {fr : Nat × Nat} (hb : W.heap[0]? = some (.cells cs t fr)) (hcs : cs.toList = steps16.map (Value.int .u32)) (k : Int) (s1 s2 : ByteArray) (a b c md : Int) {v6 : Value} (ok : BytesOk v6) :
  Calls Tryz.prog 5 #[.agg #[.int .u8 k, .string s1, .string s2, .int .i64 a, .int .i64 b, .int .i64 c, v6], .int .u8 md] W fun e W' => e = .returned (.bool true) ∧ Go.RowKit.Below W.heap.size W W' := by
 obtain ⟨⟨s1⟩⟩ := s1
 obtain ⟨⟨s2⟩⟩ := s2
 have ro : ∀ n o, hArg.get n = some o → o.ro = true := fun n o e => by rw [(hBegin_get e).2]; rfl
 have law := fun S => isTrue_some (runsNil k s1 s2 a b c md S)
 have cc := fun S => (law S).elim fun h' he => (⟨h', (evX_sound fits Hh (xawK_ok Hh) 100000).call _ _ _ _ _ he⟩ : ∃ h', CallOk K Tryz.prog 5 [.g [.int .u8 k, .str s1, .str s2, .int .i64 a, .int .i64 b, .int .i64 c, S], .c (.int .u8 md)] hArg (.w (.c (.bool true))) h')
 rcases ok with rfl | ⟨bk, o, sp, len, cap, rfl, hlc, hc⟩
 ·obtain ⟨h', c1⟩ := cc .snil
  exact callsOk_args (ρ := rArg ⟨0, 0, 0⟩) (vals := [.agg #[.int .u8 k, .string ⟨⟨s1⟩⟩, .string ⟨⟨s2⟩⟩, .int .i64 a, .int .i64 b, .int .i64 c, .slice none 0 0], .int .u8 md]) (rep_arg hb hcs _) (rArg_dom _) ro c1
   ⟨⟨_, rfl, rfl, rfl, rfl, rfl, rfl, rfl, rfl, trivial⟩, rfl, trivial⟩
 ·rcases hc with c0 | rfl
  ·subst c0
   obtain rfl : len = 0 := by omega
   obtain ⟨h', c1⟩ := cc (.slice 1 0 0 1)
   exact callsOk_args (ρ := rArg ⟨0, 0, 0⟩) (vals := [.agg #[.int .u8 k, .string ⟨⟨s1⟩⟩, .string ⟨⟨s2⟩⟩, .int .i64 a, .int .i64 b, .int .i64 c, .slice (some ⟨bk, o, sp⟩) 0 0], .int .u8 md]) (rep_arg hb hcs _) (rArg_dom _) ro c1
    ⟨⟨_, rfl, rfl, rfl, rfl, rfl, rfl, rfl, ⟨⟨0, 0, 0⟩, _, _, rfl, rfl, .inl ⟨rfl, rfl⟩⟩, trivial⟩, rfl, trivial⟩
  ·obtain ⟨h', c1⟩ := cc (.slice 1 0 len 1)
   exact callsOk_args (ρ := rArg ⟨bk, o, o + cap * 1⟩) (vals := [.agg #[.int .u8 k, .string ⟨⟨s1⟩⟩, .string ⟨⟨s2⟩⟩, .int .i64 a, .int .i64 b, .int .i64 c, .slice (some ⟨bk, o, none⟩) len cap], .int .u8 md]) (rep_arg hb hcs _) (rArg_dom _) ro c1
    ⟨⟨_, rfl, rfl, rfl, rfl, rfl, rfl, rfl, ⟨⟨bk, o, o + cap * 1⟩, _, _, rfl, rfl, .inr ⟨rfl, hlc, by show o + 0 + cap * 1 ≤ o + cap * 1; omega⟩⟩, trivial⟩, rfl, trivial⟩
end
end Go.Proofs.YtdnkofpkkebefaaGreatDoor
