/- Numbers, strings, '=='. -/
import Derived.Test.YtkpiafihfmafkaaGreatDoorEvPure
import Derived.Laws.Strings
namespace Go.Ev
open Go.RowKit

theorem bits_toNat (k : IntKind) (x : Int) : (BitVec.ofInt k.bits x).toNat = (x % 2 ^ k.bits).toNat := by
  rw [BitVec.toNat_ofInt]
  simp

theorem eqStr_eq : ∀ a b : List UInt8, eqStr a b = (a == b)
  | [], [] => rfl
  | [], _ :: _ => rfl
  | _ :: _, [] => rfl
  | a :: x, b :: y => by
    show (a == b && eqStr x y) = (a :: x == b :: y)
    rw [eqStr_eq x y]
    rfl

theorem binI_run {P : Program} {w : World} {op : BinOp} {k : IntKind} {x y : Int} {c : C} {t : TypeId} (h : binI op k x y = some c) : ∃ v, Con (fun _ => none) c v ∧ (binOp op t (.int k x) (.int k y)).run P w = .ok v w := by
  cases op <;> simp only [binI, opQuo, opRem, Option.some.injEq, reduceCtorEq] at h
  case add => subst h; exact ⟨_, rfl, by simp [binOp, Op.intArith]⟩
  case sub => subst h; exact ⟨_, rfl, by simp [binOp, Op.intArith]⟩
  case mul => subst h; exact ⟨_, rfl, by simp [binOp, Op.intArith]⟩
  case quo =>
    by_cases hy : y = 0
    · simp [hy] at h
    · have : (y == 0) = false := by simpa using hy
      rw [this] at h
      simp only [cond_false, Option.some.injEq] at h
      subst h
      exact ⟨_, rfl, by simp [binOp, Op.intDiv, hy]⟩
  case rem =>
    by_cases hy : y = 0
    · simp [hy] at h
    · have : (y == 0) = false := by simpa using hy
      rw [this] at h
      simp only [cond_false, Option.some.injEq] at h
      subst h
      exact ⟨_, rfl, by simp [binOp, Op.intDiv, hy]⟩
  case and => subst h; exact ⟨_, rfl, by simp [binOp, Op.intBits, BitVec.toNat_and]⟩
  case or => subst h; exact ⟨_, rfl, by simp [binOp, Op.intBits, BitVec.toNat_or]⟩
  case xor => subst h; exact ⟨_, rfl, by simp [binOp, Op.intBits, BitVec.toNat_xor]⟩
  case andNot => subst h; exact ⟨_, rfl, by simp [binOp, Op.intBits, BitVec.toNat_and, BitVec.toNat_not]⟩
  all_goals (subst h; exact ⟨_, rfl, by simp [binOp, Op.intCmp]⟩)

theorem binII_run {P : Program} {w : World} {op : BinOp} {k k' : IntKind} {x y : Int} {c : C} {t : TypeId} (h : binII op k x k' y = some c) : ∃ v, Con (fun _ => none) c v ∧ (binOp op t (.int k x) (.int k' y)).run P w = .ok v w := by
  unfold binII at h
  split at h
  · unfold opShl at h
    by_cases hy : y < 0
    · simp [hy] at h
    · simp only [hy, decide_false, cond_false, Option.some.injEq] at h
      subst h
      exact ⟨_, rfl, by simp [binOp, Op.shift, hy]⟩
  · unfold opShr at h
    by_cases hy : y < 0
    · simp [hy] at h
    · simp only [hy, decide_false, cond_false, Option.some.injEq] at h
      subst h
      exact ⟨_, rfl, by simp [binOp, Op.shift, hy]⟩
  · split at h
    · rename_i hk
      subst hk
      exact binI_run h
    · cases h

theorem binS_run {P : Program} {w : World} {op : BinOp} {x y : List UInt8} {c : C} {t : TypeId} (h : binS op x y = some c) : ∃ v, Con (fun _ => none) c v ∧ (binOp op t (.string ⟨⟨x⟩⟩) (.string ⟨⟨y⟩⟩)).run P w = .ok v w := by
  have e1 : (⟨⟨x⟩⟩ : ByteArray).toList = x := ByteArray.toList_eq _
  have e2 : (⟨⟨y⟩⟩ : ByteArray).toList = y := ByteArray.toList_eq _
  cases op <;> simp only [binS, Option.some.injEq, reduceCtorEq] at h
  case add =>
    cases hb : Nat.ble (x.length + y.length) 1099511627776 with
    | false => rw [hb] at h; cases h
    | true =>
      rw [hb] at h
      simp only [cond_true, Option.some.injEq] at h
      subst h
      have hle := Nat.le_of_ble_eq_true hb
      refine ⟨.string (⟨⟨x⟩⟩ ++ ⟨⟨y⟩⟩), ?_, ?_⟩
      · show Value.string _ = .string _
        congr 1
      · have hs : ¬ (((⟨⟨x⟩⟩ : ByteArray).size + (⟨⟨y⟩⟩ : ByteArray).size : Nat) : Int) > IntKind.i64.max := by
          have h1 : (⟨⟨x⟩⟩ : ByteArray).size = x.length := rfl
          have h2 : (⟨⟨y⟩⟩ : ByteArray).size = y.length := rfl
          have h3 : IntKind.i64.max = 9223372036854775807 := by decide
          rw [h1, h2, h3]
          omega
        simp only [binOp, Op.stringOp, if_neg hs, Sem.run_pure]
  all_goals (subst h; exact ⟨_, rfl, by simp [binOp, Op.stringOp, e1, e2, eqStr_eq]⟩)

section
variable {K : Cfg} {P : Program} {ρ : Ren} {w : World}
theorem equal_succ (t : TypeId) (a b : Value) : Op.equal t a b = Op.equalIn (9999 + 1) t a b := rfl
theorem con_none {c : C} {v : Value} (h : Con (fun _ => none) c v) (ρ : Ren) : Con ρ c v := h.mono (fun _ _ e => by cases e)

theorem eqC_run {d : TypeDesc} {t : TypeId} {x y : C} {a b : Value} {r : Bool} (hd : P.underlying t = some d) (hx : Con ρ x a) (hy : Con ρ y b) (h : eqC d x y = some r) : (Op.equal t a b).run P w = .ok r w := by
  have hu := run_underlying hd w
  unfold eqC at h
  split at h <;> simp only [Option.some.injEq, reduceCtorEq] at h <;> subst h <;> simp only [Con, ConP] at hx hy
  case h_1 => subst hx; subst hy; rw [equal_succ, Op.equalIn]; simp [hu]
  case h_2 => subst hx; subst hy; rw [equal_succ, Op.equalIn]; simp [hu]
  case h_3 => obtain ⟨l, _, rfl⟩ := hy; subst hx; rw [equal_succ, Op.equalIn]; simp [hu]
  case h_4 => obtain ⟨l, _, rfl⟩ := hx; subst hy; rw [equal_succ, Op.equalIn]; simp [hu]
  case h_5 => subst hx; subst hy; rw [equal_succ, Op.equalIn]; simp [hu]
  case h_6 => obtain ⟨l, a, c, _, rfl, _⟩ := hy; subst hx; rw [equal_succ, Op.equalIn]; simp [hu]
  case h_7 => obtain ⟨l, a, c, _, rfl, _⟩ := hx; subst hy; rw [equal_succ, Op.equalIn]; simp [hu]
  case h_8 => subst hx; subst hy; rw [equal_succ, Op.equalIn]; simp [hu]
  case h_9 => obtain ⟨l, _, rfl⟩ := hy; subst hx; rw [equal_succ, Op.equalIn]; simp [hu]
  case h_10 => obtain ⟨l, _, rfl⟩ := hx; subst hy; rw [equal_succ, Op.equalIn]; simp [hu]
  case h_11 => subst hx; subst hy; rw [equal_succ, Op.equalIn]; simp [hu]
  case h_12 => obtain ⟨l, c, rfl, _⟩ := hy; subst hx; rw [equal_succ, Op.equalIn]; simp [hu]
  case h_13 => obtain ⟨l, c, rfl, _⟩ := hx; subst hy; rw [equal_succ, Op.equalIn]; simp [hu]
end
end Go.Ev
