/- append. -/
import Derived.Test.YtkpiafihfmafkaaGreatDoorEvSlice
namespace Go.Ev
open Go.RowKit

section
variable {K : Cfg} {P : Program} {ρ : Ren} {h : H} {w : World} {ts : Tmps} {e : Operand → Value} {o : Oper} {v : V} {h' : H}

/-- A row gives its block to another name. -/
theorem Rep.retake (hr : Rep K ρ h w) (hn : ρ h.next = none) {n : Nat} {ob ob' : O} {l : Loc} {w' : World} (ho : h.get n = some ob) (hro : ob.ro = false) (hl : ρ n = some l) (hro' : ob'.ro = false) (b : Nat)
    (hk : ∀ k, k ≠ l.blk → w'.heap[k]? = w.heap[k]?) (hs : w'.heap.size = w.heap.size) (hor : ORel (ρ.set h.next ⟨l.blk, b, l.room⟩) w' ob' ⟨l.blk, b, l.room⟩) (h1 : w'.os = w.os) (h2 : w'.tape = w.tape) (h3 : w'.output = w.output) :
    Rep K (ρ.set h.next ⟨l.blk, b, l.room⟩) ((h.del n).new ob') w' ∧ Fr ρ h w (ρ.set h.next ⟨l.blk, b, l.room⟩) ((h.del n).new ob') w' ∧ Ren.le ρ (ρ.set h.next ⟨l.blk, b, l.room⟩) := by
  have hle : Ren.le ρ (ρ.set h.next ⟨l.blk, b, l.room⟩) := Ren.le_set hn _
  have hget : ∀ m x, ((h.del n).new ob').get m = some x → (m = h.next ∧ x = ob') ∨ (m ≠ h.next ∧ m ≠ n ∧ h.get m = some x) := fun m x hx => by
    rw [H.get_new] at hx
    split at hx
    · rename_i e; cases hx; exact .inl ⟨e, rfl⟩
    · rename_i e
      rw [H.get_del] at hx
      split at hx
      · cases hx
      · rename_i e'; exact .inr ⟨e, e', hx⟩
  refine ⟨⟨fun g m hg => ?_, fun m x hx => ?_, fun m m' x x' lm lm' hne hx hx' hlm hlm' => ?_⟩, ⟨h1, h2, h3, Nat.le_of_eq hs.symm, fun k hk' hnm => ?_, fun k hm => ?_, fun m x hx hxr => ?_⟩, hle⟩
  · obtain ⟨r, hr'⟩ := hr.glob g m hg
    exact ⟨r, hle _ _ hr'⟩
  · rcases hget m x hx with ⟨rfl, rfl⟩ | ⟨e1, e2, hx'⟩
    · exact ⟨_, Ren.set_same _ _ _, hor⟩
    · obtain ⟨lm, hlm, hrm⟩ := hr.obj m x hx'
      exact ⟨lm, hle _ _ hlm, (hrm.mono hle).congr (hk _ (hr.inj m n x ob lm l e2 hx' ho hlm hl))⟩
  · rcases hget m x hx with ⟨rfl, rfl⟩ | ⟨e1, e2, hx1⟩
    · rw [Ren.set_same] at hlm
      cases hlm
      rcases hget m' x' hx' with ⟨rfl, rfl⟩ | ⟨e1', e2', hx1'⟩
      · exact absurd rfl hne
      · rw [Ren.set_ne _ _ e1'] at hlm'
        exact fun e => hr.inj m' n x' ob lm' l e2' hx1' ho hlm' hl e.symm
    · rw [Ren.set_ne _ _ e1] at hlm
      rcases hget m' x' hx' with ⟨rfl, rfl⟩ | ⟨e1', e2', hx1'⟩
      · rw [Ren.set_same] at hlm'
        cases hlm'
        exact hr.inj m n x ob lm l e2 hx1 ho hlm hl
      · rw [Ren.set_ne _ _ e1'] at hlm'
        exact hr.inj m m' x x' lm lm' hne hx1 hx1' hlm hlm'
  · exact hk k (fun e => hnm ⟨n, ob, l, ho, hro, hl, e.symm⟩)
  · obtain ⟨m, x, lm, hx, hxr, hlm, hkm⟩ := hm
    rcases hget m x hx with ⟨rfl, rfl⟩ | ⟨e1, e2, hx1⟩
    · rw [Ren.set_same] at hlm
      cases hlm
      exact .inr ⟨n, ob, l, ho, hro, hl, hkm⟩
    · rw [Ren.set_ne _ _ e1] at hlm
      exact .inr ⟨m, x, lm, hx1, hxr, hlm, hkm⟩
  · rcases hget m x hx with ⟨rfl, rfl⟩ | ⟨e1, e2, hx1⟩
    · rw [hro'] at hxr
      cases hxr
    · exact hx1

theorem grown_le (w : World) (need old : Nat) (el : TypeId) : need ≤ grownCap w need old el := by
  unfold grownCap Question.cut
  exact Nat.le_add_right _ _

theorem size_zeroCells (z : Array Value) (n : Nat) : (Builtin.zeroCells z n).size = n * z.size := by simp [Builtin.zeroCells]

theorem srcFits_of {t : TypeId} {te : TI} (ht : elemTI K t = some te) {s : C} (hs : isSl s = true) : srcFits K t s = true := by
  obtain ⟨ti, el, hti, hd, _⟩ := elemTI_some ht
  unfold srcFits
  rw [hti]
  simp only [hd]
  cases s <;> simp [isSl] at hs <;> rfl

theorem good_append (F : Fits K P) (hr : Rep K ρ h w) (hn : ρ h.next = none) {t t' ty : TypeId} {s x : C} {u y : Value} (hs : Con ρ s u) (hx : Con ρ x y) (hf : srcFits K t' x = true) (hv : opAppend h (elemTI K t) s x = some (v, h')) :
    ∃ ρ' w' val, (Builtin.append_ #[t, t'] ty #[u, y]).run P w = .ok val w' ∧ Ren.le ρ ρ' ∧ New ρ ρ' h.next h'.next ∧ Rep K ρ' h' w' ∧ ConV ρ' v val ∧ Fr ρ h w ρ' h' w' ∧ h.next ≤ h'.next := by
  cases hte : elemTI K t with
  | none => rw [hte] at hv; simp [opAppend] at hv
  | some te =>
    rw [hte] at hv
    simp only [opAppend] at hv
    obtain ⟨ti, el, hti, hd, hel⟩ := elemTI_some hte
    have hu := F.und t ti hti
    rw [hd] at hu
    obtain ⟨i, hi, his, hib, z, hz, hzc⟩ := F.info el te hel
    have hzl := F.zlen el te hel
    cases hnew : sliceEls h te.size x with
    | none => rw [hnew] at hv; cases hv
    | some new =>
      rw [hnew] at hv
      obtain ⟨news, hsrc, hnall, hnlen⟩ := slice_src F hr hx hf hnew
      cases hsl : isSl s with
      | false => cases new <;> simp [hsl] at hv
      | true =>
        have hfs := srcFits_of hte hsl
        cases new with
        | nil =>
          simp only [hsl, cond_true, Option.some.injEq, Prod.mk.injEq] at hv
          obtain ⟨rfl, rfl⟩ := hv
          have hn0 : news = [] := by
            have := hnall.length
            simp at this
            exact List.length_eq_zero_iff.1 this.symm
          subst hn0
          refine ⟨ρ, w, u, ?_, Ren.le.refl _, New.refl _ _ _, hr, hs, Fr.refl _ _ _, Nat.le_refl _⟩
          cases s <;> simp [isSl] at hsl
          case snil =>
            have : u = .slice none 0 0 := hs
            subst this
            rcases hsrc.kind with ⟨e', hk⟩ | hk <;> simp [Builtin.append_, run_underlying hu, run_underlying hk, sizeOf, typeInfo, hi, hsrc.len]
            all_goals (rw [← his] at hsrc; have := hsrc.cells; simp at this; simp [this])
          case slice n off len sz =>
            obtain ⟨l, a, cap, hl, rfl, hcase⟩ := hs
            have hle : len ≤ cap := by rcases hcase with ⟨p, q⟩ | ⟨_, p, _⟩ <;> omega
            rw [← his] at hsrc
            rcases hsrc.kind with ⟨e', hk⟩ | hk <;>
              (have hcl := hsrc.cells
               simp at hcl
               simp [Builtin.append_, run_underlying hu, run_underlying hk, sizeOf, typeInfo, hi, hsrc.len, hle, hcl, storeCells])
        | cons n1 ns =>
          simp only [hsl, cond_true] at hv
          generalize hnn : n1 :: ns = new at *
          have hpos : 0 < new.length := by rw [← hnn]; simp
          unfold appendTo at hv
          split at hv
          · rename_i old hold
            cases hb : (Nat.ble ((old.length + new.length) * te.bytes) 1099511627776 && Nat.ble (old.length + new.length) 1099511627776) with
            | false => rw [hb] at hv; cases hv
            | true =>
              rw [hb] at hv
              simp only [cond_true] at hv
              simp only [Bool.and_eq_true] at hb
              have hb1 := ble_le hb.1
              have hb2 := ble_le hb.2
              obtain ⟨olds, hosrc, hoall, holen⟩ := slice_src F hr hs hfs hold
              have hwr : ∀ x ∈ old ++ new, x.length = te.size := fun x hx => by
                rcases List.mem_append.1 hx with h1 | h1
                · exact holen x h1
                · exact hnlen x h1
              have hall : All2 (Con ρ) (old ++ new).flatten (olds ++ news) := by
                rw [List.flatten_append]
                exact hoall.append hnall
              have hlenall : (olds ++ news).length = (old.length + new.length) * te.size := by
                rw [← hall.length, flatten_length hwr, List.length_append]
              -- a new row
              have grow : ∀ (base : Option Addr) (cap : Nat) (h1 : H), u = .slice base old.length cap → cap < old.length + new.length → Rep K ρ h1 w → Fr ρ h w ρ h1 w → h1.next = h.next →
                  newSlice h1 te.size (old.length + new.length) (some (old ++ new)) = some (v, h') →
                  ∃ ρ' w' val, (Builtin.append_ #[t, t'] ty #[u, y]).run P w = .ok val w' ∧ Ren.le ρ ρ' ∧ New ρ ρ' h.next h'.next ∧ Rep K ρ' h' w' ∧ ConV ρ' v val ∧ Fr ρ h w ρ' h' w' ∧ h.next ≤ h'.next := by
                intro base cap h1 hu' hcap hr1 hfr1 hnx hns
                simp only [newSlice, Option.some.injEq, Prod.mk.injEq] at hns
                obtain ⟨rfl, rfl⟩ := hns
                have hos : (Builtin.firstCells i.size old.length (.slice base old.length cap)).run P w.drew = .ok olds.toArray w.drew := by
                  have := hosrc.cellsD
                  rw [hu', ← his] at this
                  exact this
                have hsrc' := hsrc
                rw [← his] at hsrc'
                have hrun := run_append_grow_src (P := P) w t t' ty el i z hu hi hz base old.length cap olds hos y new.length news hsrc' hcap (by omega) (by rw [hib]; exact growslice_fits hcap (by omega))
                have hcs : ((olds ++ news).toArray ++ Builtin.zeroCells z.cells (grownCap w (old.length + new.length) cap el - (old.length + new.length))).size = grownCap w (old.length + new.length) cap el * te.size := by
                  have hzs : z.cells.size = te.size := by
                    have := (hzc ρ).cells.length
                    rw [hzl] at this
                    rw [this, Array.length_toList]
                  rw [Array.size_append, size_zeroCells, hzs]
                  simp only [List.size_toArray]
                  rw [hlenall, ← Nat.add_mul]
                  congr 1
                  have := grown_le w (old.length + new.length) cap el
                  omega
                have hor := orel_row (ρ := ρ) (w' := w.drew.alloc (.cells ((olds ++ news).toArray ++ Builtin.zeroCells z.cells (grownCap w (old.length + new.length) cap el - (old.length + new.length))) el)) (b := w.heap.size) (t := el) (fr := (0, 0)) (heap_alloc_at _) (fun i _ => by simp) hwr (fun j c hc => by
                  obtain ⟨v, hv, hcon⟩ := hall.get j c hc
                  refine ⟨v, ?_, hcon⟩
                  have hj := (List.getElem?_eq_some_iff.1 hv).1
                  rw [Array.getElem?_append_left (by simpa using hj)]
                  simpa using hv) false
                have hnone : ρ h1.next = none := by rw [hnx]; exact hn
                obtain ⟨a1, a2, a3⟩ := hr1.new hnone (.row te.size (old ++ new) false) _ (w' := w.drew.alloc (.cells ((olds ++ news).toArray ++ Builtin.zeroCells z.cells (grownCap w (old.length + new.length) cap el - (old.length + new.length))) el)) (fun k hk => heap_alloc_lt (w := w.drew) _ hk) (heap_alloc_le (w := w.drew) _) (hor _ (Ren.le_set hnone _)) rfl rfl rfl
                refine ⟨_, _, _, by rw [hu']; exact hrun, a3, by rw [H.next_new, hnx]; exact New.set _ _ _, a1, ⟨_, _, _, Ren.set_same _ _ _, rfl, .inr ⟨by simp [Loc.at], grown_le _ _ _ _, ?_⟩⟩, hfr1.trans a2, by rw [H.next_new, hnx]; omega⟩
                show 0 + 0 + grownCap w (old.length + new.length) cap el * te.size ≤ Array.size _
                rw [hcs]
                omega
              cases s <;> simp [isSl] at hsl
              case snil =>
                have hu' : u = .slice none 0 0 := hs
                have ho0 : old = [] := by simp [sliceEls] at hold; exact hold
                subst ho0
                simp only [poison] at hv
                exact grow none 0 h hu' (by simpa using hpos) hr (Fr.refl _ _ _) rfl hv
              case slice n off len sz =>
                simp only [poison] at hv
                split at hv
                · rename_i h1 hp
                  split at hp
                  · rename_i sz0 els0 ho
                    cases hp
                    have hl2 : old.length = len ∧ sz = te.size := by
                      simp only [sliceEls] at hold
                      cases hb : Nat.beq te.size sz with
                      | false => rw [hb] at hold; cases hold
                      | true =>
                        rw [hb] at hold
                        simp only [cond_true] at hold
                        refine ⟨?_, (Nat.eq_of_beq_eq_true hb).symm⟩
                        cases hb0 : Nat.beq len 0 with
                        | true => rw [hb0] at hold; cases hold; exact (Nat.eq_of_beq_eq_true hb0).symm
                        | false =>
                          rw [hb0] at hold
                          simp only [cond_false, ho, rowEls] at hold
                          obtain ⟨l', hl', hor⟩ := hr.obj n _ ho
                          obtain ⟨_, _, _, _, _, _, hw, _⟩ := hor
                          exact (readMany_some hw hold).1
                    obtain ⟨hl2, hsz⟩ := hl2
                    subst hl2
                    subst hsz
                    obtain ⟨l, a, cap, hl, hu', hcase⟩ := hs
                    by_cases hroom : old.length + new.length ≤ cap
                    · rcases hcase with ⟨p, q⟩ | ⟨ha, hlc, hrm⟩
                      · omega
                      · subst ha
                        obtain ⟨l', hl', hor⟩ := hr.obj n _ ho
                        rw [hl] at hl'
                        cases hl'
                        obtain ⟨cs, t0, fr, hb', hsz', hfr, hw, hread⟩ := hor
                        have hnews : news.length = new.length * te.size := hsrc.newsLen
                        have hmul : old.length * te.size + new.length * te.size ≤ cap * te.size := by rw [← Nat.add_mul]; exact Nat.mul_le_mul_right _ hroom
                        have hsrc' := hsrc
                        rw [← his] at hsrc'
                        have hrun := run_append_room_src (P := P) w t t' ty el i hu hi l.blk (l.base + off) old.length cap y new.length news hsrc' hroom (fun j hj => by
                            rw [cell_of hb', his]
                            have : l.base + off + old.length * te.size + j < cs.size := by omega
                            simp [this]) (fun j hj => frozen_of hb' _ (hfr rfl _ (by rw [his]; omega)))
                        rw [his] at hrun
                        obtain ⟨cs', hcs1, hcs2, hcs3⟩ := getElem?_setCells news w (l.base + off + old.length * te.size) cs t0 fr hb'
                        obtain ⟨r1, r2, r3, r4⟩ := setCells_rest (b := l.blk) news w (l.base + off + old.length * te.size)
                        simp only [newSlice, Option.some.injEq, Prod.mk.injEq] at hv
                        obtain ⟨rfl, rfl⟩ := hv
                        have hle := Ren.le_set hn ⟨l.blk, l.base + off, l.room⟩
                        have holdl : olds.length = old.length * te.size := hosrc.newsLen
                        obtain ⟨a1, a2, a3⟩ := hr.retake hn ho rfl hl (ob' := .row te.size (old ++ new) false) rfl (l.base + off) (w' := w.setCells l.blk (l.base + off + old.length * te.size) news) (fun k hk => setCells_other hk _ _ _) r1
                          ⟨cs', t0, fr, hcs1, hcs2.trans hsz', hfr, hwr, fun k c hc => by
                            have hc' := read1_flatten hwr k c hc
                            rw [List.flatten_append] at hc'
                            have hfo : old.flatten.length = old.length * te.size := flatten_length holen
                            by_cases hk : k < old.length * te.size
                            · rw [List.getElem?_append_left (by omega)] at hc'
                              -- an old cell
                              have hne : old.length ≠ 0 := fun e => by rw [e] at hk; simp at hk
                              have hrd : ∃ v, cs[l.base + off + k]? = some v ∧ Con ρ c v := by
                                simp only [sliceEls] at hold
                                have hbt : Nat.beq te.size te.size = true := Nat.beq_refl _
                                rw [hbt] at hold
                                simp only [cond_true] at hold
                                rw [beq_false_of hne] at hold
                                simp only [cond_false, ho, rowEls] at hold
                                obtain ⟨_, _, x3⟩ := readMany_some hw hold
                                obtain ⟨v, hv, hcon⟩ := hread _ c (x3 k c hc')
                                exact ⟨v, by rw [Nat.add_assoc]; exact hv, hcon⟩
                              obtain ⟨v, hv, hcon⟩ := hrd
                              refine ⟨v, ?_, hcon.mono hle⟩
                              have := (Array.getElem?_eq_some_iff.1 hv).1
                              show cs'[l.base + off + k]? = _
                              rw [hcs3 _ this, if_neg (by omega)]
                              exact hv
                            · rw [List.getElem?_append_right (by omega)] at hc'
                              obtain ⟨v, hv, hcon⟩ := hnall.get _ c hc'
                              refine ⟨v, ?_, hcon.mono hle⟩
                              have hlt := (List.getElem?_eq_some_iff.1 hv).1
                              show cs'[l.base + off + k]? = _
                              rw [hcs3 _ (by omega), if_pos (by omega), ← hv]
                              congr 1
                              omega⟩ r2 r3 r4
                        refine ⟨_, _, _, by rw [hu']; exact hrun, a3, New.set _ _ _, a1, ⟨_, _, _, Ren.set_same _ _ _, rfl, .inr ⟨by simp [Loc.at], hroom, ?_⟩⟩, a2, Nat.le_succ _⟩
                        show l.base + off + 0 + cap * te.size ≤ l.room
                        omega
                    · obtain ⟨d1, d2⟩ := hr.del n
                      exact grow (some a) cap (h.del n) hu' (by omega) d1 d2 rfl hv
                  · cases hp
                · cases hv
          · cases hv

end
end Go.Ev
