/- Loads and stores; new variables. -/
import Derived.Test.YtkpiafihfmafkaaGreatDoorEvMem
namespace Go.Ev
open Go.RowKit

section
variable {K : Cfg} {P : Program} {ρ : Ren} {h : H} {w : World} {ts : Tmps} {e : Operand → Value} {o : Oper} {v : V} {h' : H}

theorem cell_of {b : Nat} {cs : Array Value} {t : TypeId} {fr : Nat × Nat} (hb : w.heap[b]? = some (.cells cs t fr)) (i : Nat) : w.cell? ⟨b, i, none⟩ = cs[i]? := by
  simp [World.cell?, hb]
theorem frozen_of {b : Nat} {cs : Array Value} {t : TypeId} {fr : Nat × Nat} (hb : w.heap[b]? = some (.cells cs t fr)) (i : Nat) (hn : ¬ (fr.1 ≤ i ∧ i < fr.2)) : w.frozen? ⟨b, i, none⟩ = false := by
  obtain ⟨lo, hi⟩ := fr
  simp only [World.frozen?, hb]
  simp only [Bool.and_eq_false_iff, decide_eq_false_iff_not]
  by_cases h1 : lo ≤ i
  · right; intro h2; exact hn ⟨h1, h2⟩
  · exact .inl h1

/-- The cells that a row's part has in the world. -/
theorem row_part (hr : Rep K ρ h w) {n : Nat} {l : Loc} {sz : Nat} {els : List (List C)} {ro : Bool} (ho : h.get n = some (.row sz els ro)) (hl : ρ n = some l) {off k : Nat} {x : List C} (hx : readRow sz els off k = some x) :
    ∃ vs : List Value, w.rangeAt l.blk (l.base + off) vs ∧ vs.length = k ∧ All2 (Con ρ) x vs := by
  obtain ⟨l', hl', hor⟩ := hr.obj n _ ho
  rw [hl] at hl'
  cases hl'
  obtain ⟨cs, t, fr, hb, hsz, hfr, hw, hread⟩ := hor
  obtain ⟨hlen, hget⟩ := read1_of_readRow hw hx
  have key : ∀ (i : Nat) c, x[i]? = some c → ∃ v, cs[l.base + off + i]? = some v ∧ Con ρ c v := fun i c hc => by
    obtain ⟨v, hv, hcon⟩ := hread _ c (hget i c hc)
    exact ⟨v, by rw [Nat.add_assoc]; exact hv, hcon⟩
  refine ⟨(cs.toList.drop (l.base + off)).take k, ?_, ?_, ?_⟩
  · intro j u hu
    rw [cell_of hb]
    have hj : j < k := by
      have := (List.getElem?_eq_some_iff.1 hu).1
      rw [List.length_take] at this
      omega
    rw [List.getElem?_take_of_lt hj, List.getElem?_drop] at hu
    rw [← hu]; simp
  · rw [List.length_take, List.length_drop]
    by_cases hk : k = 0
    · omega
    · obtain ⟨c, hc⟩ : ∃ c, x[k - 1]? = some c := ⟨x[k - 1]'(by omega), List.getElem?_eq_getElem (by omega)⟩
      obtain ⟨v, hv, _⟩ := key (k - 1) c hc
      have := (Array.getElem?_eq_some_iff.1 hv).1
      rw [Array.length_toList]
      omega
  · refine All2.of_get ?_ (fun i a b ha hb' => ?_)
    · rw [List.length_take, List.length_drop, hlen]
      by_cases hk : k = 0
      · omega
      · obtain ⟨c, hc⟩ : ∃ c, x[k - 1]? = some c := ⟨x[k - 1]'(by omega), List.getElem?_eq_getElem (by omega)⟩
        obtain ⟨v, hv, _⟩ := key (k - 1) c hc
        have := (Array.getElem?_eq_some_iff.1 hv).1
        rw [Array.length_toList]
        omega
    · have hi : i < k := by
        have := (List.getElem?_eq_some_iff.1 ha).1
        omega
      obtain ⟨v, hv, hcon⟩ := key i a ha
      rw [List.getElem?_take_of_lt hi, List.getElem?_drop] at hb'
      have : cs[l.base + off + i]? = some b := by rw [← hb']; simp
      rw [hv] at this
      cases this
      exact hcon

theorem load_run (F : Fits K P) (hr : Rep K ρ h w) {t : TypeId} {n off : Nat} {l : Loc} (hl : ρ n = some l) {x : W} (hx : load K h t n off = some x) : ∃ v, (loadVar t (l.at off)).run P w = .ok v w ∧ ConW ρ x v := by
  unfold load at hx
  split at hx
  · cases hx
  · rename_i ti hti
    unfold loadIn at hx
    split at hx
    · rename_i sz els ro ho
      have hag := isAgg_run F hti w
      cases ha : ti.agg with
      | true =>
        rw [ha] at hx hag
        simp only [cond_true] at hx
        unfold gW at hx
        split at hx
        · rename_i y hy
          cases hx
          obtain ⟨vs, hrng, hlen, hall⟩ := row_part hr ho hl hy
          obtain ⟨i, hi, hs, _⟩ := F.info t ti hti
          have hrow : ti.desc.isRow = true := by rw [← F.agg t ti hti]; exact ha
          refine ⟨.agg vs.toArray, run_loadVar_mid w l.blk (l.base + off) t vs ti.desc hrng (F.und t ti hti) hrow (by rw [hi, hlen]; simp [hs]), vs.toArray, rfl, ?_⟩
          exact hall
        · cases hx
      | false =>
        rw [ha] at hx hag
        simp only [cond_false] at hx
        unfold cW at hx
        split at hx
        · rename_i c hc
          cases hx
          obtain ⟨l', hl', hor⟩ := hr.obj n _ ho
          rw [hl] at hl'
          cases hl'
          obtain ⟨cs, t', fr, hb, hsz, hfr, hw, hread⟩ := hor
          obtain ⟨u, hu, hcon⟩ := hread off c hc
          refine ⟨u, ?_, hcon⟩
          have hcell : w.cell? (l.at off) = some u := by
            show w.cell? ⟨l.blk, l.base + off, none⟩ = _
            rw [cell_of hb, hu]
          simp [loadVar, hag, Go.load, Sem.run, hcell]
        · cases hx
    · cases hx

theorem good_load (F : Fits K P) (hr : Rep K ρ h w) (he : EvR K ρ ts e) {t : TypeId} {x : Operand} (hop : o.op = .load t x) (hv : opLoad K h t (evalC K ts x) = some (v, h')) : Same ρ h w v h' ((execOp e o).run P w) := by
  unfold opLoad at hv
  split at hv
  · rename_i n off hx
    obtain ⟨y, hy, rfl, rfl⟩ := outW_some hv
    obtain ⟨l, hl, hp⟩ := he.c hx
    obtain ⟨u, hu, hcon⟩ := load_run F hr hl hy
    refine Same.of hr (val := u) ?_ hcon
    simp [execOp, hop, hp, Instr.loadAt, Instr.sureAddr, hu]
  · cases hv

/-! ### A row is written -/
theorem writeRow_some {sz : Nat} {els els' : List (List C)} (hw : ∀ x ∈ els, x.length = sz) {off : Nat} {l : List C} (h : writeRow sz els off l = some els') :
    (∀ x ∈ els', x.length = sz) ∧ (∀ k c, read1 sz els' k = some c → (off ≤ k ∧ k < off + l.length ∧ l[k - off]? = some c) ∨ (¬ (off ≤ k ∧ k < off + l.length) ∧ read1 sz els k = some c)) ∧ (∀ i, i < l.length → ∃ c, read1 sz els (off + i) = some c) := by
  -- one element is written
  have key : ∀ (el : List C), els[off / sz]? = some el → off % sz + l.length ≤ el.length → l ≠ [] → els' = els.set (off / sz) (el.take (off % sz) ++ l ++ el.drop (off % sz + l.length)) →
      (∀ x ∈ els', x.length = sz) ∧ (∀ k c, read1 sz els' k = some c → (off ≤ k ∧ k < off + l.length ∧ l[k - off]? = some c) ∨ (¬ (off ≤ k ∧ k < off + l.length) ∧ read1 sz els k = some c)) ∧ (∀ i, i < l.length → ∃ c, read1 sz els (off + i) = some c) := by
    intro el hel hle hne he'
    have hlen := hw el (List.mem_of_getElem? hel)
    have hidx : off / sz < els.length := (List.getElem?_eq_some_iff.1 hel).1
    have hpos : 0 < l.length := by cases l with | nil => exact absurd rfl hne | cons _ _ => simp
    have hnl : (el.take (off % sz) ++ l ++ el.drop (off % sz + l.length)).length = sz := by
      simp only [List.length_append, List.length_take, List.length_drop]
      omega
    have hszp : 0 < sz := by omega
    subst he'
    refine ⟨fun x hx => ?_, fun k c hc => ?_, fun i hi => ?_⟩
    · rcases List.mem_or_eq_of_mem_set hx with h1 | h1
      · exact hw x h1
      · rw [h1]; exact hnl
    · unfold read1 at hc
      by_cases hq : k / sz = off / sz
      · rw [hq, List.getElem?_set_self hidx] at hc
        simp only at hc
        have hk := Nat.div_add_mod k sz
        have ho := Nat.div_add_mod off sz
        rw [hq] at hk
        have hm := Nat.mod_lt k hszp
        by_cases h1 : k % sz < off % sz
        · right
          refine ⟨by omega, ?_⟩
          unfold read1
          rw [hq, hel]
          simp only
          rw [List.append_assoc, List.getElem?_append_left (by rw [List.length_take]; omega), List.getElem?_take_of_lt h1] at hc
          exact hc
        · by_cases h2 : k % sz < off % sz + l.length
          · left
            refine ⟨by omega, by omega, ?_⟩
            rw [List.append_assoc, List.getElem?_append_right (by rw [List.length_take]; omega), List.length_take, List.getElem?_append_left (by omega)] at hc
            rw [← hc]
            congr 1
            omega
          · right
            refine ⟨by omega, ?_⟩
            unfold read1
            rw [hq, hel]
            simp only
            rw [List.getElem?_append_right (by rw [List.length_append, List.length_take]; omega), List.length_append, List.length_take, List.getElem?_drop] at hc
            rw [← hc]
            congr 1
            omega
      · right
        rw [List.getElem?_set_ne (fun e => hq e.symm)] at hc
        refine ⟨?_, hc⟩
        rintro ⟨a, b⟩
        apply hq
        have ho := Nat.div_add_mod off sz
        have hm := Nat.mod_lt off hszp
        have hk' : k = sz * (off / sz) + (off % sz + (k - off)) := by omega
        have hsm : (off % sz + (k - off)) / sz = 0 := Nat.div_eq_of_lt (by omega)
        generalize off % sz + (k - off) = z at hk' hsm
        rw [hk', Nat.mul_add_div hszp, hsm, Nat.add_zero]
    · have hlt : off % sz + i < sz := by omega
      have hdiv : (off + i) / sz = off / sz := by
        conv => lhs; rw [← Nat.div_add_mod off sz]
        rw [Nat.add_assoc, Nat.mul_add_div (by omega), Nat.div_eq_of_lt hlt, Nat.add_zero]
      have hmod : (off + i) % sz = off % sz + i := by
        conv => lhs; rw [← Nat.div_add_mod off sz]
        rw [Nat.add_assoc, Nat.mul_add_mod, Nat.mod_eq_of_lt hlt]
      refine ⟨el[off % sz + i]'(by omega), ?_⟩
      unfold read1
      rw [hdiv, hel]
      simp only [hmod]
      exact List.getElem?_eq_getElem (by omega)
  unfold writeRow at h
  split at h
  · cases h
    exact ⟨hw, fun k c hc => .inr ⟨by simp, hc⟩, fun i hi => by simp at hi⟩
  · rename_i c
    split at h
    · cases h
    · rename_i el hel
      cases hb : Nat.blt (off % sz) el.length with
      | false => rw [hb] at h; cases h
      | true =>
        rw [hb] at h
        simp only [cond_true, Option.some.injEq] at h
        have hlt := blt_lt hb
        refine key el hel hlt (by simp) ?_
        rw [← h]
        congr 1
        rw [List.set_eq_take_append_cons_drop, if_pos hlt]
        simp
  · rename_i l' hn1 hn2
    split at h
    · cases h
    · rename_i el hel
      cases hb : Nat.ble (off % sz + l.length) el.length with
      | false => rw [hb] at h; cases h
      | true =>
        rw [hb] at h
        simp only [cond_true, Option.some.injEq] at h
        refine key el hel (ble_le hb) (fun e => ?_) h.symm
        subst e
        exact hn1 rfl

theorem getElem?_setCells {b : Nat} : ∀ (vs : List Value) (w : World) (o : Nat) (cs : Array Value) (t : TypeId) (fr : Nat × Nat), w.heap[b]? = some (.cells cs t fr) →
    ∃ cs', (w.setCells b o vs).heap[b]? = some (.cells cs' t fr) ∧ cs'.size = cs.size ∧ ∀ i, i < cs.size → cs'[i]? = if o ≤ i ∧ i < o + vs.length then vs[i - o]? else cs[i]?
  | [], w, o, cs, t, fr, h => ⟨cs, h, rfl, fun i hi => by rw [if_neg (by simp)]⟩
  | v :: vs, w, o, cs, t, fr, h => by
    have h1 : (w.setCell ⟨b, o, none⟩ v).heap[b]? = some (.cells (cs.setIfInBounds o v) t fr) := by
      simp [World.setCell, Array.getElem?_modify, h]
    obtain ⟨cs', a, b', c⟩ := getElem?_setCells vs (w.setCell ⟨b, o, none⟩ v) (o + 1) _ t fr h1
    refine ⟨cs', a, by simpa using b', fun i hi => ?_⟩
    rw [c i (by simpa using hi)]
    by_cases hi1 : i = o
    · subst hi1
      rw [if_neg (by omega), if_pos (by simp)]
      simp [hi]
    · by_cases hi2 : o + 1 ≤ i ∧ i < o + 1 + vs.length
      · rw [if_pos hi2, if_pos (by simp; omega)]
        rw [show i - o = (i - (o + 1)) + 1 by omega]
        simp
      · rw [if_neg hi2, if_neg (by simp; omega)]
        simp [Ne.symm hi1]
theorem setCells_other {b k : Nat} (hk : k ≠ b) : ∀ (vs : List Value) (w : World) (o : Nat), (w.setCells b o vs).heap[k]? = w.heap[k]?
  | [], _, _ => rfl
  | v :: vs, w, o => by
    rw [World.setCells, setCells_other hk vs]
    simp [World.setCell, Array.getElem?_modify, Ne.symm hk]
theorem setCells_rest {b : Nat} : ∀ (vs : List Value) (w : World) (o : Nat), (w.setCells b o vs).heap.size = w.heap.size ∧ (w.setCells b o vs).os = w.os ∧ (w.setCells b o vs).tape = w.tape ∧ (w.setCells b o vs).output = w.output
  | [], _, _ => ⟨rfl, rfl, rfl, rfl⟩
  | v :: vs, w, o => by
    have := setCells_rest (b := b) vs (w.setCell ⟨b, o, none⟩ v) (o + 1)
    refine ⟨this.1.trans (by simp [World.setCell]), this.2.1, this.2.2.1, this.2.2.2⟩

/-- A row is written in the world as in the memory of names. -/
theorem row_write (hr : Rep K ρ h w) {n : Nat} {l : Loc} {sz : Nat} {els els' : List (List C)} (ho : h.get n = some (.row sz els false)) (hl : ρ n = some l) {off : Nat} {x : List C} (hx : writeRow sz els off x = some els') {vs : List Value} (hvs : All2 (Con ρ) x vs) :
    w.there l.blk (l.base + off) vs.length ∧ Rep K ρ (h.put n (.row sz els' false)) (w.setCells l.blk (l.base + off) vs) ∧ Fr ρ h w ρ (h.put n (.row sz els' false)) (w.setCells l.blk (l.base + off) vs) := by
  obtain ⟨l', hl', hor⟩ := hr.obj n _ ho
  rw [hl] at hl'
  cases hl'
  obtain ⟨cs, t, fr, hb, hsz, hfr, hw, hread⟩ := hor
  obtain ⟨hw', hrd, hin⟩ := writeRow_some hw hx
  have hlen := hvs.length
  have hthere : ∀ i, i < x.length → l.base + off + i < cs.size := fun i hi => by
    obtain ⟨c, hc⟩ := hin i hi
    obtain ⟨v, hv, _⟩ := hread _ c hc
    have := (Array.getElem?_eq_some_iff.1 hv).1
    omega
  obtain ⟨cs', hb', hsz', hget⟩ := getElem?_setCells vs w (l.base + off) cs t fr hb
  obtain ⟨r1, r2, r3, r4⟩ := setCells_rest (b := l.blk) vs w (l.base + off)
  refine ⟨fun j hj => ⟨?_, ?_⟩, ?_⟩
  · rw [cell_of hb]
    have := hthere j (by omega)
    simp [this]
  · exact frozen_of hb _ (hfr rfl _ (by have := hthere j (by omega); omega))
  · refine hr.update ho rfl hl rfl (fun k hk => setCells_other hk _ _ _) r1 ⟨cs', t, fr, hb', hsz'.trans hsz, hfr, hw', fun k c hc => ?_⟩ r2 r3 r4
    rcases hrd k c hc with ⟨h1, h2, h3⟩ | ⟨h1, h2⟩
    · obtain ⟨v, hv, hcon⟩ := hvs.get _ c h3
      refine ⟨v, ?_, hcon⟩
      have := hthere (k - off) (by omega)
      rw [hget _ (by omega), if_pos (by omega), ← hv]
      congr 1
      omega
    · obtain ⟨v, hv, hcon⟩ := hread k c h2
      refine ⟨v, ?_, hcon⟩
      have := (Array.getElem?_eq_some_iff.1 hv).1
      rw [hget _ this, if_neg (by omega)]
      exact hv

theorem good_store (F : Fits K P) (hr : Rep K ρ h w) (he : EvR K ρ ts e) {t : TypeId} {x y : Operand} (hop : o.op = .store t x y) (hv : opStore K h t (evalC K ts x) (evalW K ts y) = some (v, h')) : Good K ρ h w v h' ((execOp e o).run P w) := by
  unfold opStore at hv
  split at hv
  · rename_i n off a hx hy
    unfold outH at hv
    split at hv
    · rename_i h2 hs
      cases hv
      obtain ⟨l, hl, hp⟩ := he.c hx
      have hcv := (he.w hy).cells
      unfold store at hs
      split at hs
      · cases hs
      · rename_i ti hti
        unfold storeIn at hs
        split at hs
        · rename_i sz els ho
          cases hb : Nat.beq a.cells.length ti.size with
          | false => rw [hb] at hs; cases hs
          | true =>
            rw [hb] at hs
            simp only [cond_true] at hs
            unfold putRow at hs
            split at hs
            · rename_i els' hels
              cases hs
              have hsize := Nat.eq_of_beq_eq_true hb
              obtain ⟨hth, hrep, hfr⟩ := row_write hr ho hl hels hcv
              obtain ⟨i, hi, his, _⟩ := F.info t ti hti
              have hone : (e y).cells.all (·.oneCell') = true := by
                rw [Array.all_eq_true]
                intro j hj
                have hj' : (e y).cells.toList[j]? = some ((e y).cells[j]) := by simp
                have hlen := hcv.length
                have hjl : j < a.cells.length := by rw [hlen, Array.length_toList]; exact hj
                obtain ⟨b, hb1, hb2⟩ := hcv.get j _ (List.getElem?_eq_getElem hjl)
                rw [hj'] at hb1
                cases hb1
                exact hb2.one.1
              have hlen : a.cells.length = (e y).cells.size := hcv.length.trans Array.length_toList
              have hrun := run_storeVar_mid (P := P) w l.blk (l.base + off) t (e y).cells (by rw [Array.length_toList] at hth; exact hth) (by rw [hi]; simp only [Option.map_some, Option.some.injEq]; rw [his, ← hsize, hlen]) hone
              have hrun' : (storeVar t ⟨l.blk, l.base + off, none⟩ (e y)).run P w = .ok () (w.setCells l.blk (l.base + off) (e y).cells.toList) := by
                have heq : storeVar t ⟨l.blk, l.base + off, none⟩ (e y) = storeVar t ⟨l.blk, l.base + off, none⟩ (.agg (e y).cells) := by
                  unfold storeVar
                  rfl
                rw [heq]
                exact hrun
              refine ⟨ρ, _, Go.undef, .inr ⟨?_, rfl⟩, Ren.le.refl _, New.refl _ _ _, hrep, conV_undef _, hfr, Nat.le_refl _⟩
              simp only [execOp, hop, hp]
              simp [Instr.storeAt, Instr.sureAddr, Loc.at, hrun']
            · cases hs
        · cases hs
    · cases hv
  · cases hv

end
end Go.Ev
