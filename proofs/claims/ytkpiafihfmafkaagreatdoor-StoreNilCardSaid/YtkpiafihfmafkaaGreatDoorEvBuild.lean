/- Literals. -/
import Derived.Test.YtkpiafihfmafkaaGreatDoorEvStore
import Derived.Great.FillDense
namespace Go.Ev
open Go.RowKit

section
variable {K : Cfg} {P : Program} {ρ : Ren} {h : H} {w : World} {ts : Tmps} {e : Operand → Value} {o : Oper} {v : V} {h' : H}

/-- One part is put in. -/
theorem fill_step {z : List C} {cells : Array Value} (hz : All2 (Con ρ) z cells.toList) {x : List C} {u : Value} (hx : All2 (Con ρ) x u.cells.toList) {off : Nat} (hle : off + x.length ≤ z.length) :
    All2 (Con ρ) (z.take off ++ x ++ z.drop (off + x.length)) (u.cells.zipIdx.foldl (fun cs (c : Value × Nat) => cs.setIfInBounds (off + c.2) c.1) cells).toList := by
  have hzl : z.length = cells.size := hz.length.trans Array.length_toList
  have hxl : x.length = u.cells.size := hx.length.trans Array.length_toList
  rw [← Array.foldl_toList, Array.toList_zipIdx]
  obtain ⟨g1, g2⟩ := Great.foldl_set off u.cells.toList 0 cells
  refine All2.of_get ?_ (fun i a b ha hb => ?_)
  · refine Eq.trans ?_ (Array.length_toList.trans g1).symm
    simp only [List.length_append, List.length_take, List.length_drop]
    omega
  · rw [Array.getElem?_toList, g2 i] at hb
    by_cases h1 : i < off
    · rw [if_neg (by omega)] at hb
      rw [List.append_assoc, List.getElem?_append_left (by rw [List.length_take]; omega), List.getElem?_take_of_lt h1] at ha
      obtain ⟨b', hb', hc⟩ := hz.get i a ha
      rw [Array.getElem?_toList] at hb'
      rw [hb'] at hb
      cases hb
      exact hc
    · by_cases h2 : i < off + x.length
      · rw [if_pos (by rw [Array.length_toList]; omega)] at hb
        rw [List.append_assoc, List.getElem?_append_right (by rw [List.length_take]; omega), List.length_take, List.getElem?_append_left (by omega)] at ha
        rw [show i - min off z.length = i - off by omega] at ha
        obtain ⟨b', hb', hc⟩ := hx.get _ a ha
        simp only [Nat.add_zero] at hb
        rw [hb'] at hb
        cases hb
        exact hc
      · rw [if_neg (by rw [Array.length_toList]; omega)] at hb
        rw [List.getElem?_append_right (by rw [List.length_append, List.length_take]; omega), List.length_append, List.length_take, List.getElem?_drop] at ha
        rw [show off + x.length + (i - (min off z.length + x.length)) = i by omega] at ha
        obtain ⟨b', hb', hc⟩ := hz.get i a ha
        rw [Array.getElem?_toList] at hb'
        rw [hb'] at hb
        cases hb
        exact hc

theorem fillPart_some {z z' : List C} {off size : Nat} {x : W} (h : fillPart z off size x = some z') : x.cells.length = size ∧ off + size ≤ z.length ∧ z' = z.take off ++ x.cells ++ z.drop (off + size) := by
  unfold fillPart at h
  cases hb : (Nat.beq x.cells.length size && Nat.ble (off + size) z.length) with
  | false => rw [hb] at h; cases h
  | true =>
    rw [hb] at h
    cases h
    simp only [Bool.and_eq_true] at hb
    exact ⟨Nat.eq_of_beq_eq_true hb.1, ble_le hb.2, rfl⟩

/-- The parts of a literal. -/
def PartsR (ρ : Ren) : List (Nat × W) → List (Nat × Value) → Prop := All2 (fun p q => p.1 = q.1 ∧ ConW ρ p.2 q.2)

theorem EvR.parts (he : EvR K ρ ts e) : ∀ {l : List (Nat × Operand)} {ps : List (Nat × W)}, evalParts K ts l = some ps → PartsR ρ ps (l.map fun p => (p.1, e p.2))
  | [], ps, h => by simp [evalParts] at h; subst h; trivial
  | (i, x) :: l, ps, h => by
    simp only [evalParts] at h
    split at h
    · cases h
    · rename_i v hv
      split at h
      · cases h
      · rename_i vs hvs
        cases h
        exact ⟨⟨rfl, he.w hv⟩, he.parts hvs⟩

theorem fill_run {place : Nat → Option (Nat × Nat)} (fillp : List (Nat × W) → List C → Option (List C)) (h0 : ∀ z, fillp [] z = some z)
    (h1 : ∀ i x l z r, fillp ((i, x) :: l) z = some r → ∃ off size z', place i = some (off, size) ∧ fillPart z off size x = some z' ∧ fillp l z' = some r) :
    ∀ (ps : List (Nat × W)) (qs : List (Nat × Value)) (z r : List C) (cells : Array Value), fillp ps z = some r → PartsR ρ ps qs → All2 (Con ρ) z cells.toList → ∃ cells', Instr.fill place cells qs = some cells' ∧ All2 (Con ρ) r cells'.toList
  | [], [], z, r, cells, hf, _, hz => by
    rw [h0] at hf
    cases hf
    exact ⟨cells, rfl, hz⟩
  | (i, x) :: ps, (j, u) :: qs, z, r, cells, hf, hp, hz => by
    obtain ⟨off, size, z', hpl, hfp, hrest⟩ := h1 i x ps z r hf
    obtain ⟨hl, hle, rfl⟩ := fillPart_some hfp
    obtain ⟨⟨hij, hcon⟩, hp'⟩ := hp
    simp only at hij hcon
    subst hij
    have hcc := hcon.cells
    have hlen : x.cells.length = u.cells.size := hcc.length.trans Array.length_toList
    have hzl : z.length = cells.size := hz.length.trans Array.length_toList
    have hst := fill_step hz hcc (off := off) (by omega)
    rw [hl] at hst
    obtain ⟨cells', h2, h3⟩ := fill_run fillp h0 h1 ps qs _ r _ hrest hp' hst
    refine ⟨cells', ?_, h3⟩
    unfold Instr.fill
    rw [hpl]
    simp only
    rw [if_neg (by simp only [ne_eq, Bool.or_eq_true, decide_eq_true_eq, not_or]; omega)]
    exact h2
  | [], _ :: _, _, _, _, _, hp, _ => hp.elim
  | _ :: _, [], _, _, _, _, hp, _ => hp.elim

theorem mapM_fields {fs : List Field} {sz : Field → Nat} (h : ∀ f ∈ fs, (sizeOf f.type).run P w = .ok (sz f) w) : (fs.mapM (fun f => do pure (f.offset, ← sizeOf f.type) : Field → Sem (Nat × Nat))).run P w = .ok (fs.map fun f => (f.offset, sz f)) w := by
  induction fs with
  | nil => simp
  | cons f fs ih =>
    rw [List.mapM_cons]
    simp only [Sem.run_bind, h f (by simp), Result.andThen_ok, Sem.run_pure, ih (fun g hg => h g (by simp [hg])), List.map_cons]

theorem good_build (F : Fits K P) (hr : Rep K ρ h w) (he : EvR K ρ ts e) {t : TypeId} {parts : Array (Nat × Operand)} (hop : o.op = .build t parts) (hv : outW h (opBuild K t (evalParts K ts parts.toList)) = some (v, h')) : Same ρ h w v h' ((execOp e o).run P w) := by
  obtain ⟨c, hq, rfl, rfl⟩ := outW_some hv
  clear hv
  unfold opBuild at hq
  split at hq
  · rename_i ti ps hti hps
    have hparts := he.parts hps
    obtain ⟨i, hi, his, _, z, hz, hzc⟩ := F.info t ti hti
    have hzero : (zeroValue t).run P w = .ok z w := by simp [zeroValue, typeInfo, hi, hz]
    have hu := F.und t ti hti
    split at hq
    · rename_i fs hd
      rw [hd] at hu
      unfold gW at hq
      split at hq
      · rename_i r hfill
        cases hq
        have hsz : ∀ f ∈ fs.toList, (sizeOf f.type).run P w = .ok (P.cellsOf f.type) w := fun f hf => by
          obtain ⟨i, hi⟩ := F.fields t ti fs hti hd f hf
          simp [sizeOf, typeInfo, hi, Program.cellsOf]
        have hmap : (fs.mapM (fun f => do pure (f.offset, ← sizeOf f.type) : Field → Sem (Nat × Nat))).run P w = .ok (fs.map fun f => (f.offset, P.cellsOf f.type)) w := by
          rw [Array.mapM_eq_mapM_toList]
          rw [map_eq_pure_bind, Sem.run_bind, mapM_fields hsz, Result.andThen_ok, Sem.run_pure]
          congr 1
          apply Array.ext'
          simp
        obtain ⟨cells', h1, h2⟩ := fill_run (ρ := ρ) (place := ((fs.map fun f => (f.offset, P.cellsOf f.type))[·]?)) (fillStruct K t) (fun _ => rfl) (fun i x l z r hh => by
          simp only [fillStruct] at hh
          split at hh
          · cases hh
          · rename_i off ft hf
            split at hh
            · cases hh
            · rename_i z' hz'
              obtain ⟨ti', fs', fd, hti', hd', hfd, hoff, hft⟩ := fieldOf_some hf
              rw [hti] at hti'
              cases hti'
              rw [hd] at hd'
              cases hd'
              refine ⟨off, ft.size, z', ?_, hz', hh⟩
              obtain ⟨i', hi', his', _⟩ := F.info fd.type ft hft
              simp [hfd, hoff, Program.cellsOf, hi', his']) ps _ _ r z.cells hfill hparts (hzc ρ).cells
        refine Same.of hr (val := .agg cells') ?_ ⟨cells', rfl, h2⟩
        simp only [Array.getElem?_map] at h1
        simp only [execOp, hop, Instr.build, Sem.run_bind, hzero, Result.andThen_ok, run_underlying hu w, hmap]
        simp [h1]
      · cases hq
    · rename_i n el hd
      rw [hd] at hu
      split at hq
      · rename_i te hte
        unfold gW at hq
        split at hq
        · rename_i r hfill
          cases hq
          obtain ⟨cells', h1, h2⟩ := fill_run (ρ := ρ) (place := fun i => some (i * te.size, te.size)) (fillArr te.size) (fun _ => rfl) (fun i x l z r hh => by
            simp only [fillArr] at hh
            split at hh
            · cases hh
            · rename_i z' hz'
              exact ⟨_, _, z', rfl, hz', hh⟩) ps _ _ r z.cells hfill hparts (hzc ρ).cells
          refine Same.of hr (val := .agg cells') ?_ ⟨cells', rfl, h2⟩
          simp only [execOp, hop, Instr.build, Sem.run_bind, hzero, Result.andThen_ok, run_underlying hu w, sizeOf_run F hte w]
          simp [h1]
        · cases hq
      · cases hq
    · cases hq
  · cases hq

end
end Go.Ev
