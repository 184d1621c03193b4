/- Operations that touch no memory, and those that read it. -/
import Derived.Test.YtkpiafihfmafkaaGreatDoorEvRel
import Derived.Deep.MidRow
namespace Go.Ev
open Go.RowKit

/-- What the evaluator was told of the program is so. -/
structure Fits (K : Cfg) (P : Program) : Prop where
  funcs : ∀ f fn, K.funcs.get f = some fn → P.funcs[f]? = some fn
  names : ∀ f fn, K.funcs.get f = some fn → fn.name ≠ "runtime.NumGoroutine"
  mixed : P.follows .mixedOrders = true
  und : ∀ t ti, K.types.get t = some ti → P.underlying t = some ti.desc
  info : ∀ t ti, K.types.get t = some ti → ∃ i, P.info? t = some i ∧ i.size = ti.size ∧ i.bytes = ti.bytes ∧ ∃ z, i.zero = some z ∧ ∀ ρ, ConW ρ ti.zero z
  agg : ∀ t ti, K.types.get t = some ti → ti.agg = ti.desc.isRow
  zlen : ∀ t ti, K.types.get t = some ti → ti.zero.cells.length = ti.size
  elem : ∀ t ti el, K.types.get t = some ti → ti.desc = .slice el → ∃ i, P.info? el = some i
  fields : ∀ t ti fs, K.types.get t = some ti → ti.desc = .struct fs → ∀ f ∈ fs.toList, ∃ i, P.info? f.type = some i
  plain : ∀ t ti, K.types.get t = some ti → ti.plain = true → P.stoodInHeld t = false ∧ P.eqGuardType P.depth t = false

/-- An operation has gone as the evaluator says. -/
def Good (K : Cfg) (ρ : Ren) (h : H) (w : World) (v : V) (h' : H) (r : Result Next) : Prop :=
  ∃ ρ' w' val, (r = .ok (.value val) w' ∨ r = .ok .skip w' ∧ val = Go.undef) ∧ Ren.le ρ ρ' ∧ New ρ ρ' h.next h'.next ∧ Rep K ρ' h' w' ∧ ConV ρ' v val ∧ Fr ρ h w ρ' h' w' ∧ h.next ≤ h'.next

theorem Good.same {K : Cfg} {ρ : Ren} {h : H} {w : World} {v : V} {val : Value} {r : Result Next} (hr : Rep K ρ h w) (e : r = .ok (.value val) w) (c : ConV ρ v val) : Good K ρ h w v h r :=
  ⟨ρ, w, val, .inl e, Ren.le.refl _, New.refl _ _ _, hr, c, Fr.refl _ _ _, Nat.le_refl _⟩

/-- No world is changed, no memory. -/
def Same (ρ : Ren) (h : H) (w : World) (v : V) (h' : H) (r : Result Next) : Prop := h' = h ∧ ∃ val, r = .ok (.value val) w ∧ ConV ρ v val
theorem Same.of {K : Cfg} {ρ : Ren} {h : H} {w : World} {v : V} {val : Value} {r : Result Next} (_ : Rep K ρ h w) (e : r = .ok (.value val) w) (c : ConV ρ v val) : Same ρ h w v h r := ⟨rfl, val, e, c⟩
theorem Same.good {K : Cfg} {ρ : Ren} {h h' : H} {w : World} {v : V} {r : Result Next} (hr : Rep K ρ h w) (s : Same ρ h w v h' r) : Good K ρ h w v h' r := by
  obtain ⟨rfl, val, e, c⟩ := s
  exact Good.same hr e c

/-! ### Constants, operands -/
theorem absC_con (ρ : Ren) : ∀ {v : Value} {c : C}, absC v = some c → Con ρ c v := by
  intro v c h
  cases v <;> simp only [absC, Option.some.injEq, reduceCtorEq] at h
  case bool => subst h; rfl
  case int => subst h; rfl
  case string => subst h; rfl
  case pointer a => cases a <;> simp only [Option.some.injEq, reduceCtorEq] at h; subst h; rfl
  case slice a l c => 
    cases a with
    | some _ => simp at h
    | none =>
      cases l <;> cases c <;> simp at h
      subst h; rfl
  case map a => cases a <;> simp only [Option.some.injEq, reduceCtorEq] at h; subst h; rfl
  case nilFunc => subst h; rfl
theorem absL_con (ρ : Ren) : ∀ {l : List Value} {cs : List C}, absL l = some cs → All2 (Con ρ) cs l
  | [], cs, h => by simp [absL] at h; subst h; trivial
  | v :: l, cs, h => by
    simp only [absL] at h
    split at h
    · cases h
    · rename_i c hc
      split at h
      · cases h
      · rename_i cs' hcs
        cases h
        exact ⟨absC_con ρ hc, absL_con ρ hcs⟩
theorem absV_con (ρ : Ren) {v : Value} {u : V} (h : absV v = some u) : ConV ρ u v := by
  unfold absV at h
  split at h
  · rename_i cs
    split at h
    · cases h
    · rename_i l hl
      cases h
      exact ⟨cs, rfl, absL_con ρ hl⟩
  · rename_i cs
    split at h
    · rename_i hl
      cases h
      exact ⟨cs, rfl, by rw [hl]; trivial⟩
    · cases h
  · split at h
    · cases h
    · rename_i c hc
      cases h
      exact absC_con ρ hc

/-- The operands' values. -/
def EvR (K : Cfg) (ρ : Ren) (ts : Tmps) (e : Operand → Value) : Prop := ∀ x v, evalO K ts x = some v → ConV ρ v (e x)
theorem evalO_con {K : Cfg} {ρ : Ren} {h : H} {w : World} {n : Nat} {ts : Tmps} {a : Act} (hr : Rep K ρ h w) (ht : TRel ρ n ts a.tmps) : EvR K ρ ts a.eval := by
  intro x v hv
  cases x with
  | tmp t =>
    have : some (evalT ts t) = some v := hv
    cases this
    exact ht.2 t
  | const c => exact absV_con ρ hv
  | global g =>
    have h1 : evalG K g = some v := hv
    unfold evalG at h1
    split at h1
    · cases h1
    · rename_i k hk
      cases h1
      obtain ⟨r, hr⟩ := hr.glob g k hk
      exact ⟨_, hr, by simp [Act.eval, Loc.at]⟩
  | func f =>
    have : some (V.w (.c (.fn f [] []))) = some v := hv
    cases this
    exact ⟨#[], #[], rfl, trivial, trivial⟩

section
variable {K : Cfg} {ρ : Ren} {ts : Tmps} {e : Operand → Value}
theorem EvR.w (he : EvR K ρ ts e) {x : Operand} {v : W} (h : evalW K ts x = some v) : ConW ρ v (e x) := by
  unfold evalW asW at h
  split at h
  · rename_i u hu
    cases h
    exact he _ _ hu
  · cases h
theorem EvR.c (he : EvR K ρ ts e) {x : Operand} {v : C} (h : evalC K ts x = some v) : Con ρ v (e x) := by
  unfold evalC asC at h
  split at h
  · rename_i u hu
    cases h
    exact he _ _ hu
  · cases h
theorem EvR.ws (he : EvR K ρ ts e) : ∀ {l : List Operand} {vs : List W}, evalWs K ts l = some vs → All2 (ConW ρ) vs (l.map e)
  | [], vs, h => by simp [evalWs] at h; subst h; trivial
  | x :: l, vs, h => by
    simp only [evalWs] at h
    split at h
    · cases h
    · rename_i v hv
      split at h
      · cases h
      · rename_i vs' hvs
        cases h
        exact ⟨he.w hv, he.ws hvs⟩
end

theorem outV_some {h h' : H} {o : Option V} {v : V} (e : outV h o = some (v, h')) : o = some v ∧ h' = h := by
  unfold outV at e; split at e
  · cases e; exact ⟨rfl, rfl⟩
  · cases e
theorem outW_some {h h' : H} {o : Option W} {v : V} (e : outW h o = some (v, h')) : ∃ x, o = some x ∧ v = .w x ∧ h' = h := by
  unfold outW at e; split at e
  · cases e; exact ⟨_, rfl, rfl, rfl⟩
  · cases e
theorem outC_some {h h' : H} {o : Option C} {v : V} (e : outC h o = some (v, h')) : ∃ x, o = some x ∧ v = .w (.c x) ∧ h' = h := by
  unfold outC at e; split at e
  · cases e; exact ⟨_, rfl, rfl, rfl⟩
  · cases e

section
variable {K : Cfg} {P : Program} {ρ : Ren} {h : H} {w : World} {ts : Tmps} {e : Operand → Value} {o : Oper} {v : V} {h' : H}

theorem good_move (hr : Rep K ρ h w) (he : EvR K ρ ts e) {x : Operand} (hop : o.op = .move x ∨ o.op = .assign x) (hv : outV h (evalO K ts x) = some (v, h')) : Same ρ h w v h' ((execOp e o).run P w) := by
  obtain ⟨hq, rfl⟩ := outV_some hv; clear hv; have hv := hq; clear hq
  refine Same.of hr (val := e x) ?_ (he _ _ hv)
  rcases hop with hop | hop <;> simp [execOp, hop]

theorem good_pick (hr : Rep K ρ h w) (he : EvR K ρ ts e) {c x y : Operand} (hop : o.op = .pick c x y) (hv : outV h (opPick K ts x y (evalC K ts c)) = some (v, h')) : Same ρ h w v h' ((execOp e o).run P w) := by
  obtain ⟨hq, rfl⟩ := outV_some hv; clear hv; have hv := hq; clear hq
  unfold opPick at hv
  split at hv
  · rename_i hc
    have hb : e c = .bool true := he.c hc
    exact Same.of hr (val := e x) (by simp [execOp, hop, hb, asBool]) (he _ _ hv)
  · rename_i hc
    have hb : e c = .bool false := he.c hc
    exact Same.of hr (val := e y) (by simp [execOp, hop, hb, asBool]) (he _ _ hv)
  · cases hv

theorem good_nilCheck (hr : Rep K ρ h w) (he : EvR K ρ ts e) {x : Operand} (hop : o.op = .nilCheck x) (hv : outC h (opNilCheck (evalC K ts x)) = some (v, h')) : Same ρ h w v h' ((execOp e o).run P w) := by
  obtain ⟨c, hq, rfl, rfl⟩ := outC_some hv; clear hv; have hv := hq; clear hq
  unfold opNilCheck at hv
  split at hv
  · rename_i n off hc
    cases hv
    have hb := he.c hc
    obtain ⟨l, hl, hp⟩ := hb
    exact Same.of hr (val := e x) (by simp [execOp, hop, hp]) ⟨l, hl, hp⟩
  · rename_i f a b hc
    cases hv
    have hb := he.c hc
    obtain ⟨a', b', hp, r⟩ := hb
    exact Same.of hr (val := e x) (by simp [execOp, hop, hp]) ⟨a', b', hp, r⟩
  · rename_i l hc
    cases hv
    have hb := he.c hc
    obtain ⟨l', hl, hp⟩ := hb
    exact Same.of hr (val := e x) (by simp [execOp, hop, hp]) ⟨l', hl, hp⟩
  · cases hv

theorem good_extract (hr : Rep K ρ h w) (he : EvR K ρ ts e) {x : Operand} {i : Nat} (hop : o.op = .extract x i) (hv : outW h (opExtract i (evalO K ts x)) = some (v, h')) : Same ρ h w v h' ((execOp e o).run P w) := by
  obtain ⟨c, hq, rfl, rfl⟩ := outW_some hv; clear hv; have hv := hq; clear hq
  unfold opExtract at hv
  split at hv
  · rename_i l hc
    obtain ⟨vs, hp, ha⟩ := he _ _ hc
    obtain ⟨b, hb, hcon⟩ := ha.get i c hv
    have hb' : vs[i]? = some b := by rw [← hb]; simp
    exact Same.of hr (val := b) (by simp [execOp, hop, hp, Instr.extract, hb']) hcon
  · cases hv

end
end Go.Ev
