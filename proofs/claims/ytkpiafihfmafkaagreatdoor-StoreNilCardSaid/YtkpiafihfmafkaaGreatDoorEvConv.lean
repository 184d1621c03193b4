/- Conversions; the builtins. -/
import Derived.Test.YtkpiafihfmafkaaGreatDoorEvMap2
namespace Go.Ev
open Go.RowKit

section
variable {K : Cfg} {P : Program} {ρ : Ren} {h : H} {w : World} {ts : Tmps} {e : Operand → Value} {o : Oper} {v : V} {h' : H}

theorem good_convert (F : Fits K P) (hr : Rep K ρ h w) (he : EvR K ρ ts e) {t t' : TypeId} {x : Operand} (hop : o.op = .convert t t' x) (hv : opConvert h (K.types.get t) (K.types.get t') (evalC K ts x) = some (v, h')) : Same ρ h w v h' ((execOp e o).run P w) := by
  unfold opConvert at hv
  split at hv
  · rename_i ts0 td k n hts htd hx
    split at hv
    · rename_i k' hd
      cases hv
      have h1 := F.und t ts0 hts
      have h2 := F.und t' td htd
      rw [hd] at h2
      have hb : e x = .int k n := he.c hx
      refine Same.of hr (val := .int k' (k'.wrap n)) ?_ rfl
      simp [execOp, hop, hb, convert, run_underlying h1 w, run_underlying h2 w, Conv.intToInt]
    · cases hv
  · rename_i ts0 td s hts htd hx
    have h1 := F.und t ts0 hts
    have h2 := F.und t' td htd
    have hb : e x = .string ⟨⟨s⟩⟩ := he.c hx
    split at hv
    · rename_i hd
      cases hv
      rw [hd] at h2
      refine Same.of hr (val := .string ⟨⟨s⟩⟩) ?_ rfl
      simp [execOp, hop, hb, convert, run_underlying h1 w, run_underlying h2 w]
    · cases hv
  · cases hv

/-! ### len -/
theorem len_run (F : Fits K P) (hr : Rep K ρ h w) {t ty : TypeId} {x : W} {u : Value} (hx : ConW ρ x u) (hf : lenFits K t x = true) {c : C} (hc : opLen K h t x = some c) : ∃ val, (Builtin.len_ #[t] ty #[u]).run P w = .ok val w ∧ Con ρ c val := by
  unfold lenFits at hf
  split at hf
  · rename_i ti hti
    have hu := F.und t ti hti
    split at hf
    · rename_i s hd
      rw [hd] at hu
      have : u = .string ⟨⟨s⟩⟩ := hx
      subst this
      simp only [opLen, Option.some.injEq] at hc
      subst hc
      exact ⟨_, by simp [Builtin.len_, run_underlying hu w, goInt]; rfl, rfl⟩
    · rename_i el hd
      rw [hd] at hu
      have : u = .slice none 0 0 := hx
      subst this
      simp only [opLen, Option.some.injEq] at hc
      subst hc
      exact ⟨_, by simp [Builtin.len_, run_underlying hu w, goInt], rfl⟩
    · rename_i el n off len sz hd
      rw [hd] at hu
      obtain ⟨l, a, cap, hl, rfl, _⟩ := hx
      simp only [opLen, Option.some.injEq] at hc
      subst hc
      exact ⟨_, by simp [Builtin.len_, run_underlying hu w, goInt], rfl⟩
    · rename_i k el hd
      rw [hd] at hu
      have : u = .map none := hx
      subst this
      simp only [opLen, Option.some.injEq] at hc
      subst hc
      exact ⟨_, by simp [Builtin.len_, run_underlying hu w, goInt], rfl⟩
    · rename_i k el n hd
      rw [hd] at hu
      simp only [opLen] at hc
      split at hc
      · rename_i es ho
        cases hc
        obtain ⟨l, hl, xs, clock, h1, h2, h3⟩ := hr.obj n _ ho
        obtain ⟨l', hl', hu'⟩ := hx
        rw [hl] at hl'
        cases hl'
        subst hu'
        have hlen : es.length = xs.size := h2.length.trans Array.length_toList
        exact ⟨_, by simp [Builtin.len_, run_underlying hu w, goInt, getObj, Sem.run, h1]; rfl, by rw [hlen]; rfl⟩
      · cases hc
    · rename_i n el l hd
      rw [hd] at hu
      simp only [opLen, hti, hd, Option.some.injEq] at hc
      subst hc
      exact ⟨_, by simp [Builtin.len_, run_underlying hu w, goInt], rfl⟩
    · cases hf
  · cases hf

theorem arr1 {α : Type} {a : Array α} {x : α} (h : a.toList = [x]) : a = #[x] := by
  apply Array.ext'; exact h
theorem arr2 {α : Type} {a : Array α} {x y : α} (h : a.toList = [x, y]) : a = #[x, y] := by
  apply Array.ext'; exact h
theorem all2_one {α β : Type} {R : α → β → Prop} {x : α} {l : List β} (h : All2 R [x] l) : ∃ b, l = [b] ∧ R x b := by
  cases l with
  | nil => exact h.elim
  | cons b l => cases l with
    | nil => exact ⟨b, rfl, h.1⟩
    | cons _ _ => exact h.2.elim
theorem all2_two {α β : Type} {R : α → β → Prop} {x y : α} {l : List β} (h : All2 R [x, y] l) : ∃ b c, l = [b, c] ∧ R x b ∧ R y c := by
  cases l with
  | nil => exact h.elim
  | cons b l =>
    obtain ⟨c, rfl, hc⟩ := all2_one h.2
    exact ⟨b, c, rfl, h.1, hc⟩

theorem call_builtin {b : Builtin} {args : Array Operand} {tys : Array TypeId} (hop : o.op = .call ⟨.builtin b, args, tys⟩) : execOp e o = builtin b tys o.type (args.map fun | .const _ => true | _ => false) (args.map e) := by
  simp [execOp, hop, resolve, invoke]
  rfl

theorem same_builtin (F : Fits K P) (hr : Rep K ρ h w) (he : EvR K ρ ts e) {b : Builtin} {args : Array Operand} {tys : Array TypeId} (hop : o.op = .call ⟨.builtin b, args, tys⟩) (hb : kdCall (.builtin b) = .read) (hv : opBuiltin K h b tys.toList (evalWs K ts args.toList) = some (v, h')) : Same ρ h w v h' ((execOp e o).run P w) := by
  rw [call_builtin hop]
  unfold opBuiltin at hv
  split at hv
  · rename_i t x ht ha
    obtain ⟨u, hu, hc⟩ := all2_one (he.ws ha)
    have h1 := arr1 ht
    have h2 : args.map e = #[u] := arr1 (by rw [Array.toList_map]; exact hu)
    cases hf : lenFits K t x with
    | false => rw [hf] at hv; cases hv
    | true =>
      rw [hf] at hv
      obtain ⟨c, hq, rfl, rfl⟩ := outC_some hv
      obtain ⟨val, hrun, hcon⟩ := len_run F hr hc hf hq (ty := o.type)
      refine Same.of hr (val := val) ?_ hcon
      rw [h1, h2]
      simp [builtin, hrun]
  · cases hb
  · cases hb
  · rename_i k a k' b' ha
    obtain ⟨u, y, hu, hx, hy⟩ := all2_two (he.ws ha)
    have h2 : args.map e = #[u, y] := arr2 (by rw [Array.toList_map]; exact hu)
    cases hv
    have e1 : u = .int k a := hx
    have e2 : y = .int k' b' := hy
    subst e1; subst e2
    refine Same.of hr (val := .int k (if b' < a then b' else a)) ?_ rfl
    rw [h2]
    simp [builtin, Builtin.min_, Builtin.min2]
  · rename_i k a k' b' ha
    obtain ⟨u, y, hu, hx, hy⟩ := all2_two (he.ws ha)
    have h2 : args.map e = #[u, y] := arr2 (by rw [Array.toList_map]; exact hu)
    cases hv
    have e1 : u = .int k a := hx
    have e2 : y = .int k' b' := hy
    subst e1; subst e2
    refine Same.of hr (val := .int k (if b' > a then b' else a)) ?_ rfl
    rw [h2]
    simp [builtin, Builtin.max_, Builtin.max2]
  · cases hv

theorem good_builtin (F : Fits K P) (hr : Rep K ρ h w) (hn : ρ h.next = none) (he : EvR K ρ ts e) {b : Builtin} {args : Array Operand} {tys : Array TypeId} (hop : o.op = .call ⟨.builtin b, args, tys⟩) (hv : opBuiltin K h b tys.toList (evalWs K ts args.toList) = some (v, h')) : Good K ρ h w v h' ((execOp e o).run P w) := by
  rw [call_builtin hop]
  unfold opBuiltin at hv
  split at hv
  · rename_i t x ht ha
    obtain ⟨u, hu, hc⟩ := all2_one (he.ws ha)
    have h1 := arr1 ht
    have h2 : args.map e = #[u] := arr1 (by rw [Array.toList_map]; exact hu)
    cases hf : lenFits K t x with
    | false => rw [hf] at hv; cases hv
    | true =>
      rw [hf] at hv
      obtain ⟨c, hq, rfl, rfl⟩ := outC_some hv
      obtain ⟨val, hrun, hcon⟩ := len_run F hr hc hf hq (ty := o.type)
      refine Good.same hr (val := val) ?_ hcon
      rw [h1, h2]
      simp [builtin, hrun]
  · rename_i t t' s x ht ha
    obtain ⟨u, y, hu, hs, hx⟩ := all2_two (he.ws ha)
    have h1 := arr2 ht
    have h2 : args.map e = #[u, y] := arr2 (by rw [Array.toList_map]; exact hu)
    cases hf : srcFits K t' x with
    | false => rw [hf] at hv; cases hv
    | true =>
      rw [hf] at hv
      simp only [cond_true] at hv
      obtain ⟨ρ', w', val, hrun, a1, a2, a3, a4, a5, a6⟩ := good_append (ty := o.type) F hr hn hs hx hf hv
      refine ⟨ρ', w', val, .inl ?_, a1, a2, a3, a4, a5, a6⟩
      rw [h1, h2]
      simp [builtin, hrun]
  · rename_i t kt m k ht ha
    obtain ⟨u, y, hu, hm, hk⟩ := all2_two (he.ws ha)
    have h1 := arr2 ht
    have h2 : args.map e = #[u, y] := arr2 (by rw [Array.toList_map]; exact hu)
    obtain ⟨w', hrun, a2, a3, a4, a5⟩ := good_delete (kt' := kt) (ty := o.type) F hr hm hk hv
    refine ⟨ρ, w', Go.undef, .inl ?_, Ren.le.refl _, New.refl _ _ _, a2, a3, a4, by rw [a5]; exact Nat.le_refl _⟩
    rw [h1, h2]
    simp [builtin, hrun]
  · rename_i k a k' b' ha
    obtain ⟨u, y, hu, hx, hy⟩ := all2_two (he.ws ha)
    have h2 : args.map e = #[u, y] := arr2 (by rw [Array.toList_map]; exact hu)
    cases hv
    have e1 : u = .int k a := hx
    have e2 : y = .int k' b' := hy
    subst e1; subst e2
    refine Good.same hr (val := .int k (if b' < a then b' else a)) ?_ rfl
    rw [h2]
    simp [builtin, Builtin.min_, Builtin.min2]
  · rename_i k a k' b' ha
    obtain ⟨u, y, hu, hx, hy⟩ := all2_two (he.ws ha)
    have h2 : args.map e = #[u, y] := arr2 (by rw [Array.toList_map]; exact hu)
    cases hv
    have e1 : u = .int k a := hx
    have e2 : y = .int k' b' := hy
    subst e1; subst e2
    refine Good.same hr (val := .int k (if b' > a then b' else a)) ?_ rfl
    rw [h2]
    simp [builtin, Builtin.max_, Builtin.max2]
  · cases hv

end
end Go.Ev
