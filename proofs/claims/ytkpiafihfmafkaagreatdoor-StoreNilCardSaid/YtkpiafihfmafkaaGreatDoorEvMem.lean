/- Memory: one object is changed, made, forgotten. -/
import Derived.Test.YtkpiafihfmafkaaGreatDoorEvPure3
namespace Go.Ev
open Go.RowKit

section
variable {K : Cfg} {P : Program} {ρ ρ' : Ren} {h : H} {w w' : World}

theorem ORel.congr {o : O} {l : Loc} (e : w'.heap[l.blk]? = w.heap[l.blk]?) (r : ORel ρ w o l) : ORel ρ w' o l := by
  cases o <;> simp only [ORel] at r ⊢
  case iter m => cases m <;> simp only at r ⊢ <;> rw [e] <;> exact r
  all_goals (rw [e]; exact r)

theorem ORel.mono (hle : Ren.le ρ ρ') {o : O} {l : Loc} (r : ORel ρ w o l) : ORel ρ' w o l := by
  cases o <;> simp only [ORel] at r ⊢
  case row =>
    obtain ⟨cs, t, fr, a, b, c, d, k⟩ := r
    exact ⟨cs, t, fr, a, b, c, d, fun i x hx => let ⟨v, hv, hc⟩ := k i x hx; ⟨v, hv, hc.mono hle⟩⟩
  case map =>
    obtain ⟨xs, clock, a, b, c⟩ := r
    exact ⟨xs, clock, a, b.mono (fun _ _ h => ⟨h.1.mono hle, h.2.mono hle⟩), c⟩
  case loop =>
    obtain ⟨r, a, b, c, d, e, f, g, ld, hd, he⟩ := r
    exact ⟨r, a, b, c, d.mono hle, e, f, g, ld, hle _ _ hd, he⟩
  case defers => exact r
  case iter m =>
    cases m <;> simp only at r ⊢
    · exact r
    · obtain ⟨z, lm, s, c, k, a, b⟩ := r
      exact ⟨z, lm, s, c, k, hle _ _ a, b⟩

/-- An object's block is there. -/
theorem ORel.lt {o : O} {l : Loc} (r : ORel ρ w o l) : l.blk < w.heap.size := by
  have key : ∀ {x : Obj}, w.heap[l.blk]? = some x → l.blk < w.heap.size := fun hx => (Array.getElem?_eq_some_iff.1 hx).1
  cases o <;> simp only [ORel] at r
  case row => obtain ⟨_, _, _, a, _⟩ := r; exact key a
  case map => obtain ⟨_, _, a, _⟩ := r; exact key a
  case loop => obtain ⟨_, a, _⟩ := r; exact key a
  case defers => exact key r
  case iter m =>
    cases m <;> simp only at r
    · obtain ⟨_, _, _, _, a⟩ := r; exact key a
    · obtain ⟨_, _, _, _, _, _, a⟩ := r; exact key a

/-- An object is changed in its place. -/
theorem Rep.update (hr : Rep K ρ h w) {n : Nat} {o o' : O} {l : Loc} (ho : h.get n = some o) (hro : o.ro = false) (hl : ρ n = some l) (hro' : o'.ro = false)
    (hk : ∀ k, k ≠ l.blk → w'.heap[k]? = w.heap[k]?) (hs : w'.heap.size = w.heap.size) (hor : ORel ρ w' o' l) (h1 : w'.os = w.os) (h2 : w'.tape = w.tape) (h3 : w'.output = w.output) :
    Rep K ρ (h.put n o') w' ∧ Fr ρ h w ρ (h.put n o') w' := by
  refine ⟨⟨hr.glob, fun m x hx => ?_, fun m m' x x' lm lm' hne hx hx' hlm hlm' => ?_⟩, ⟨h1, h2, h3, Nat.le_of_eq hs.symm, fun k hk' hn => ?_, fun k hm => ?_, fun m x hx hxr => ?_⟩⟩
  · rw [H.get_put] at hx
    split at hx
    · rename_i e
      subst e
      cases hx
      exact ⟨l, hl, hor⟩
    · rename_i e
      obtain ⟨lm, hlm, hrm⟩ := hr.obj m x hx
      refine ⟨lm, hlm, hrm.congr (hk _ ?_)⟩
      exact hr.inj m n x o lm l e hx ho hlm hl
  · rw [H.get_put] at hx hx'
    split at hx
    · rename_i e
      subst e
      rw [if_neg (fun e => hne e.symm)] at hx'
      exact hr.inj m m' o x' lm lm' hne ho hx' hlm hlm'
    · rename_i e
      split at hx'
      · rename_i e'
        subst e'
        exact hr.inj m m' x o lm lm' hne hx ho hlm hlm'
      · exact hr.inj m m' x x' lm lm' hne hx hx' hlm hlm'
  · refine hk k (fun e => hn ?_)
    exact ⟨n, o, l, ho, hro, hl, e.symm⟩
  · obtain ⟨m, x, lm, hx, hxr, hlm, hkm⟩ := hm
    rw [H.get_put] at hx
    split at hx
    · rename_i e
      subst e
      exact .inr ⟨m, o, lm, ho, hro, hlm, hkm⟩
    · exact .inr ⟨m, x, lm, hx, hxr, hlm, hkm⟩
  · rw [H.get_put] at hx
    split at hx
    · cases hx
      rw [hro'] at hxr
      cases hxr
    · exact hx

/-- A new object. -/
theorem Rep.new (hr : Rep K ρ h w) (hn : ρ h.next = none) (o : O) (room : Nat) (hk : ∀ k, k < w.heap.size → w'.heap[k]? = w.heap[k]?) (hs : w.heap.size ≤ w'.heap.size)
    (hor : ORel (ρ.set h.next ⟨w.heap.size, 0, room⟩) w' o ⟨w.heap.size, 0, room⟩) (h1 : w'.os = w.os) (h2 : w'.tape = w.tape) (h3 : w'.output = w.output) (hro : o.ro = false := by rfl) :
    Rep K (ρ.set h.next ⟨w.heap.size, 0, room⟩) (h.new o) w' ∧ Fr ρ h w (ρ.set h.next ⟨w.heap.size, 0, room⟩) (h.new o) w' ∧ Ren.le ρ (ρ.set h.next ⟨w.heap.size, 0, room⟩) := by
  have hle : Ren.le ρ (ρ.set h.next ⟨w.heap.size, 0, room⟩) := Ren.le_set hn _
  have hold : ∀ m x, m ≠ h.next → (h.new o).get m = some x → ∃ lm, ρ m = some lm ∧ ORel ρ w x lm := fun m x hm hx => by
    rw [H.get_new, if_neg hm] at hx
    exact hr.obj m x hx
  refine ⟨⟨fun g n hg => ?_, fun m x hx => ?_, fun m m' x x' lm lm' hne hx hx' hlm hlm' => ?_⟩, ⟨h1, h2, h3, hs, fun k hk' _ => hk k hk', fun k hm => ?_, fun m x hx hxr => ?_⟩, hle⟩
  · obtain ⟨r, hr'⟩ := hr.glob g n hg
    exact ⟨r, hle _ _ hr'⟩
  · by_cases e : m = h.next
    · subst e
      rw [H.get_new, if_pos rfl] at hx
      cases hx
      exact ⟨_, Ren.set_same _ _ _, hor⟩
    · obtain ⟨lm, hlm, hrm⟩ := hold m x e hx
      exact ⟨lm, hle _ _ hlm, (hrm.mono hle).congr (hk _ hrm.lt)⟩
  · by_cases e : m = h.next
    · subst e
      rw [Ren.set_same] at hlm
      cases hlm
      obtain ⟨l2, hl2, hr2⟩ := hold m' x' (fun e => hne e.symm) hx'
      rw [Ren.set_ne _ _ (fun e => hne e.symm), hl2] at hlm'
      cases hlm'
      have := hr2.lt
      simp only
      omega
    · obtain ⟨l1, hl1, hr1⟩ := hold m x e hx
      rw [Ren.set_ne _ _ e, hl1] at hlm
      cases hlm
      by_cases e' : m' = h.next
      · subst e'
        rw [Ren.set_same] at hlm'
        cases hlm'
        have := hr1.lt
        simp only
        omega
      · obtain ⟨l2, hl2, hr2⟩ := hold m' x' e' hx'
        rw [Ren.set_ne _ _ e', hl2] at hlm'
        cases hlm'
        rw [H.get_new, if_neg e] at hx
        rw [H.get_new, if_neg e'] at hx'
        exact hr.inj m m' x x' _ _ hne hx hx' hl1 hl2
  · obtain ⟨m, x, lm, hx, hxr, hlm, hkm⟩ := hm
    by_cases e : m = h.next
    · subst e
      rw [Ren.set_same] at hlm
      cases hlm
      exact .inl (by simp only at hkm; omega)
    · rw [H.get_new, if_neg e] at hx
      rw [Ren.set_ne _ _ e] at hlm
      exact .inr ⟨m, x, lm, hx, hxr, hlm, hkm⟩
  · rw [H.get_new] at hx
    split at hx
    · cases hx
      rw [hro] at hxr
      cases hxr
    · exact hx

/-- An object is forgotten. -/
theorem Rep.del (hr : Rep K ρ h w) (n : Nat) : Rep K ρ (h.del n) w ∧ Fr ρ h w ρ (h.del n) w := by
  have hsub : ∀ m x, (h.del n).get m = some x → h.get m = some x := fun m x hx => by
    rw [H.get_del] at hx
    split at hx
    · cases hx
    · exact hx
  refine ⟨⟨hr.glob, fun m x hx => hr.obj m x (hsub m x hx), fun m m' x x' lm lm' hne hx hx' => hr.inj m m' x x' lm lm' hne (hsub m x hx) (hsub m' x' hx')⟩, ⟨rfl, rfl, rfl, Nat.le_refl _, fun _ _ _ => rfl, fun k hm => ?_, fun m x hx _ => hsub m x hx⟩⟩
  obtain ⟨m, x, lm, hx, r⟩ := hm
  exact .inr ⟨m, x, lm, hsub m x hx, r⟩

/-! ### Rows -/
theorem read1_of_readRow {sz : Nat} {els : List (List C)} (hw : ∀ x ∈ els, x.length = sz) {off n : Nat} {l : List C} (h : readRow sz els off n = some l) : l.length = n ∧ ∀ (i : Nat) c, l[i]? = some c → read1 sz els (off + i) = some c := by
  unfold readRow at h
  cases hb : Nat.beq n 0 with
  | true =>
    rw [hb] at h
    cases h
    exact ⟨(Nat.eq_of_beq_eq_true hb).symm, fun i c hc => by simp at hc⟩
  | false =>
    rw [hb] at h
    simp only [cond_false] at h
    split at h
    · cases h
    · rename_i el hel
      have hlen := hw el (List.mem_of_getElem? hel)
      cases hb2 : Nat.ble (off % sz + n) el.length with
      | false => rw [hb2] at h; cases h
      | true =>
        rw [hb2] at h
        cases h
        have hle := ble_le hb2
        refine ⟨by rw [List.length_take, List.length_drop]; omega, fun i c hc => ?_⟩
        have hi : i < n := by
          have := (List.getElem?_eq_some_iff.1 hc).1
          rw [List.length_take] at this
          omega
        rw [List.getElem?_take_of_lt hi, List.getElem?_drop] at hc
        have hlt : off % sz + i < sz := by omega
        have hdiv : (off + i) / sz = off / sz := by
          conv => lhs; rw [← Nat.div_add_mod off sz]
          rw [Nat.add_assoc, Nat.mul_add_div (by omega), Nat.div_eq_of_lt hlt, Nat.add_zero]
        have hmod : (off + i) % sz = off % sz + i := by
          conv => lhs; rw [← Nat.div_add_mod off sz]
          rw [Nat.add_assoc, Nat.mul_add_mod, Nat.mod_eq_of_lt hlt]
        unfold read1
        rw [hdiv, hel]
        simp only [hmod]
        exact hc

end
end Go.Ev
