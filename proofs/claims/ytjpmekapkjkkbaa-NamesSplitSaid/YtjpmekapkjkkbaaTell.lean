/- names.tell: the iterator over what stands between the strokes of a path. -/
import Derived.RangeFuncNested
import Derived.RangeFuncBound
import Derived.RangeFuncCalls
import Derived.RangeFuncLeaves
import Derived.Shelf.Abstract
import Derived.Shelf.RegionOpen
import Derived.WalkKit
import Derived.OwnWalkIn
import Derived.TacticsInMore
import Derived.LoopNIn
import Derived.LoopIn
import Derived.Test.YtjpmekapkjkkbaaCut
namespace Go.Proofs.Ytjpmekapkjkkbaa
open Go.RowKit Go.Shelf Go.Lib

attribute [local go_sem] Oper.semAt_some

/-- A list of bytes as a Go string. -/
abbrev S (l : List UInt8) : Value := .string ⟨l.toArray⟩

def strLen : Value → Nat | .string s => s.size | _ => 0
def boolN : Value → Nat | .bool true => 1 | _ => 0

theorem drewN_grown (W : World) (n : Nat) : W.grownBy (W.drewN n) none := ⟨rfl, rfl, rfl, Nat.le_refl _, fun _ _ _ => rfl⟩

/-- What is still to come. -/
def toCome (more : Bool) (rest : List UInt8) : List (List UInt8) := if more then pieces rest else []

theorem S_size (l : List UInt8) : (⟨l.toArray⟩ : ByteArray).size = l.length := by simp [ByteArray.size]

set_option maxRecDepth 100000 in
set_option maxHeartbeats 1000000 in
theorem tell1_in (n : Nat) (hn : 1 ≤ n) (l Bn n₀ : Nat) (path : ByteArray) (h1 : 1 ≤ path.size) (hp : path.size ≤ 1000) (J Jx : List (List UInt8) → World → Prop) (B : Nat) (hJ : AbidesFrom B J)
    (hY : ∀ pre x W, J pre W → pre.length < (tellL path.data.toList).length → YieldAt Fence.wide (n - 1) Try.prog l #[S x] W fun e W' =>
      (e = .returned (.bool true) ∧ J (pre ++ [x]) W' ∧ Below n₀ W W') ∨ (e = .returned (.bool false) ∧ Jx (pre ++ [x]) W'))
    (W : World) (hBn : W.cell? ⟨Bn, 0, none⟩ = some (.string path)) (h0 : J [] W) :
    CallsIn Fence.wide n Try.prog 26 #[.func (.yield l) #[] #[], .pointer (some ⟨Bn, 0, none⟩)] W fun e W' => (∃ v, e = .returned v) ∧
      ((∃ ys, ys = tellL path.data.toList ∧ J ys W') ∨ (∃ pre, pre <+: tellL path.data.toList ∧ Jx pre W')) := by
  refine callsIn_of_wp Try.func26 rfl trivial ?_ rfl
  simp only [Try.ntmps26, List.size_toArray, List.length_cons, List.length_nil, Nat.reduceAdd, Nat.reduceSub, Array.replicate_succ, Array.replicate_zero, List.push_toArray, List.append_toArray, List.nil_append, List.cons_append]
  gi_wp2
  gi_loopw [3, 4] (fun r m wr => ∃ (pre : List (List UInt8)) (rest : List UInt8) (more : Bool), r = S rest ∧ m = .bool more ∧ rest.length ≤ 1000 ∧ tellL path.data.toList = pre ++ toCome more rest ∧ J pre wr)
    (fun r m _ => strLen r + boolN m)
  case atStart =>
    refine ⟨[], path.data.toList.drop 1, !(path.extract 1 path.size).toList.isEmpty, by rw [extract_drop], rfl, ?_, ?_, h0⟩
    · have := Lib.size_eq path
      simp
      omega
    · rw [extract_drop, Lib.toList_data]
      unfold tellL toCome
      cases List.drop 1 path.data.toList <;> simp
  case round =>
    obtain ⟨pre, rest, more, rfl, rfl, hr, hx, hJs⟩ := hrel
    cases more with
    | false =>
      have HX := Lib.hid hx
      clear hx
      gi_wp2
      go_end0
      exact ⟨⟨_, rfl⟩, .inl ⟨pre, by rw [HX.out]; simp [toCome], hJs⟩⟩
    | true =>
      have hst := pieces_step rest
      have hx2 : tellL path.data.toList = pre ++ headP rest :: toCome (moreP rest) (restP rest) := by
        rw [hx]; show pre ++ pieces rest = _; rw [hst]; rfl
      have hlt := @restP_lt rest
      have hrl : (restP rest).length ≤ 1000 := Nat.le_trans (restP_le rest) hr
      have hpl : pre.length < (tellL path.data.toList).length := by rw [hx2]; simp
      have HX := Lib.hid hx2
      have HL := Lib.hid hlt
      clear hx hx2 hst hlt
      gi_wp2_with (refine ⟨trivial, ?_⟩; gi_at_call 27; refine (callsIn_wide.2 (cut_any ⟨rest.toArray⟩ _ (by rw [S_size]; omega))).mono ?_; rintro e w' ⟨rfl, nd, rfl⟩)
      obtain ⟨fn, tmps, assign, body, hy, hR⟩ := hY pre (headP rest) (wr.drewN nd) (hJ _ _ _ none hJs (drewN_grown _ _) (fun r e => by cases e)) hpl
      dsimp only [S] at hy
      generalize wr.drewN nd = W2 at *
      rw [hy, Oper.uponIn_round]
      refine ⟨fun _ => hn, hR.mono ?_⟩
      rintro e W3 (⟨rfl, hJ3, hk3⟩ | ⟨rfl, hJx3⟩)
      · gi_wp2
        go_roundw
        case rel => exact ⟨pre ++ [headP rest], restP rest, moreP rest, rfl, rfl, hrl, by rw [HX.out]; simp, hJ3⟩
        case measure =>
          have e1 : ∀ l : List UInt8, strLen (S l) = l.length := fun l => S_size l
          show strLen (S (restP rest)) + boolN (.bool (moreP rest)) < strLen (S rest) + 1
          rw [e1, e1]
          cases hm : moreP rest with
          | true => have := HL.out hm; show _ + 1 < _; omega
          | false => have := restP_le rest; show _ + 0 < _; omega
      · gi_wp2
        refine bodyPost_ret (results_none rfl _ _ _) rfl ?_
        exact ⟨⟨_, rfl⟩, .inr ⟨pre ++ [headP rest], ⟨toCome (moreP rest) (restP rest), by rw [HX.out]; simp⟩, hJx3⟩⟩

set_option maxHeartbeats 1000000 in
/-- names.tell: the path is boxed; the function value captures the box. -/
theorem tell_any (n : Nat) (path : ByteArray) (w : World) :
    CallsIn Fence.wide n Try.prog 21 #[.string path] w fun e w' => e = .returned (.func (.func 26) #[] #[.pointer (some ⟨w.heap.size, 0, none⟩)]) ∧ w' = w.alloc (.cells #[.string path] 9) := by
  refine callsIn_of_wp Try.func21 rfl trivial ?_ rfl
  simp only [Try.ntmps21, List.size_toArray, List.length_cons, List.length_nil, Nat.reduceAdd, Nat.reduceSub, Array.replicate_succ, Array.replicate_zero, List.push_toArray, List.append_toArray, List.nil_append, List.cons_append]
  gi_wp2
  go_ret
  exact ⟨rfl, rfl⟩

theorem tell_stops (n : Nat) (hn : 1 ≤ n) (Bn n₀ : Nat) (path : ByteArray) (h1 : 1 ≤ path.size) (hp : path.size ≤ 1000) (w : World) (hBn : Bn < w.heap.size)
    (hc : w.cell? ⟨Bn, 0, none⟩ = some (.string path)) :
    SeqStopsK Fence.wide n Try.prog 26 #[.pointer (some ⟨Bn, 0, none⟩)] (fun x : List UInt8 => #[S x]) (Below n₀) (fun ys => ys = tellL path.data.toList) (fun pre => pre <+: tellL path.data.toList) (tellL path.data.toList).length w := fun l J Jx W hW hJ _ hY h0 =>
  tell1_in n hn l Bn n₀ path h1 hp J Jx W.heap.size hJ hY W ((hW.cell (p := ⟨Bn, 0, none⟩) hBn).trans hc) h0

end Go.Proofs.Ytjpmekapkjkkbaa
