/- Drawn regions: memory on the way. -/
import Derived.Test.YtkpiafihfmafkaaGreatDoorEvDraw4
namespace Go.Ev
open Go.RowKit

section
variable {K : Cfg} {P : Program} {E : Task → Option Out} {L : List Oper} {n : Nat} {ts : Tmps} {h : H} {s : Nat → Dr} {Ls : Nat → Prop} {p : Nat} {ρ0 ρ ρ' : Ren} {w0 w w' : World} {A : Nat → Option (O × Nat)} {M M' : H}

theorem Ren.cut_mono {k k' : Nat} (hk : k ≤ k') (hle : Ren.le ρ ρ') : Ren.le (ρ.cut k) (ρ'.cut k') := fun x l hx => by
  unfold Ren.cut at hx ⊢
  split at hx
  · rw [if_pos (by omega)]; exact hle _ _ hx
  · cases hx

/-- Names, each with its object and with a bound on the names in it. -/
structure Mm (K : Cfg) (ρ0 : Ren) (h : H) (w0 : World) (ρ : Ren) (A : Nat → Option (O × Nat)) (w : World) : Prop where
  le : Ren.le ρ0 ρ
  low : ∀ x l, ρ x = some l → ρ0 x = some l ∨ h.next ≤ x
  obj : ∀ x o b, A x = some (o, b) → x < b ∧ ∃ l, ρ x = some l ∧ ORel (ρ.cut b) w o l
  inj : ∀ x x' o o' b b' l l', x ≠ x' → A x = some (o, b) → A x' = some (o', b') → ρ x = some l → ρ x' = some l' → l.blk ≠ l'.blk
  os : w.os = w0.os
  tape : w.tape = w0.tape
  output : w.output = w0.output
  size : w0.heap.size ≤ w.heap.size
  keep : ∀ k, k < w0.heap.size → ¬ Mine ρ0 h k → w.heap[k]? = w0.heap[k]?
  fresh : ∀ x o b l, A x = some (o, b) → o.ro = false → ρ x = some l → w0.heap.size ≤ l.blk ∨ Mine ρ0 h l.blk
  ro : ∀ x o b, A x = some (o, b) → o.ro = true → h.get x = some o

/-- Part of it, as a memory. -/
theorem Mm.rep (m : Mm K ρ0 h w0 ρ A w) (hr0 : Rep K ρ0 h w0) (hd0 : Dom ρ0 h.next) {k : Nat} (hk : h.next ≤ k) (hM : ∀ x o, M.get x = some o → ∃ b, b ≤ k ∧ A x = some (o, b)) : Rep K (ρ.cut k) M w := by
  refine ⟨fun g x hg => ?_, fun x o hx => ?_, fun x x' o o' l l' hne hx hx' hl hl' => ?_⟩
  · obtain ⟨r, e⟩ := hr0.glob g x hg
    have := dom_lt hd0 e
    exact ⟨r, by rw [Ren.cut_lt (by omega)]; exact m.le _ _ e⟩
  · obtain ⟨b, hb, hA⟩ := hM x o hx
    obtain ⟨hlt, l, hl, hor⟩ := m.obj x o b hA
    exact ⟨l, by rw [Ren.cut_lt (by omega)]; exact hl, hor.mono (Ren.cut_mono hb (Ren.le.refl _))⟩
  · obtain ⟨b, _, hA⟩ := hM x o hx
    obtain ⟨b', _, hA'⟩ := hM x' o' hx'
    exact m.inj x x' o o' b b' l l' hne hA hA' (Ren.cut_le _ _ _ _ hl) (Ren.cut_le _ _ _ _ hl')

/-- The names behind a step. -/
def Ren.then (ρ ρ' : Ren) (k : Nat) : Ren := fun x => if x < k then ρ' x else ρ x
noncomputable def thenA (A : Nat → Option (O × Nat)) (M M' : H) : Nat → Option (O × Nat) := fun x => match M'.get x with
  | some o => some (o, M'.next)
  | none => match M.get x with
    | some _ => none
    | none => A x

section
variable (aft : Aft K (ρ.cut M.next) M w ρ' M' w') (gap : ∀ x l, ρ x = some l → M.next ≤ x → M'.next ≤ x)
include aft

theorem then_lt {x : Nat} (hx : x < M.next) : (ρ.then ρ' M'.next) x = ρ x := by
  have hup := aft.up
  unfold Ren.then
  rw [if_pos (by omega)]
  cases e : ρ x with
  | some l => exact aft.le _ _ (by rw [Ren.cut_lt hx]; exact e)
  | none =>
    cases e' : ρ' x with
    | none => rfl
    | some l =>
      rcases aft.new x l e' with h1 | h1
      · rw [Ren.cut_lt hx, e] at h1; cases h1
      · omega
theorem then_cut : (ρ.then ρ' M'.next).cut M'.next = ρ' := by
  funext x
  unfold Ren.cut Ren.then
  by_cases hx : x < M'.next
  · rw [if_pos hx, if_pos hx]
  · rw [if_neg hx]
    exact ((aft.dom (Ren.cut_dom _ _)) x (by omega)).symm
include gap
theorem then_le : Ren.le ρ (ρ.then ρ' M'.next) := fun x l hx => by
  by_cases hlt : x < M.next
  · rw [then_lt aft hlt]; exact hx
  · have := gap x l hx (by omega)
    unfold Ren.then
    rw [if_neg (by omega)]
    exact hx

/-- A step on part of the memory. -/
theorem Mm.step (m : Mm K ρ0 h w0 ρ A w) (hk : h.next ≤ M.next) (hM : ∀ x o, M.get x = some o → ∃ b, b ≤ M.next ∧ A x = some (o, b)) : Mm K ρ0 h w0 (ρ.then ρ' M'.next) (thenA A M M') w' := by
  have hle := then_le aft gap
  have hcut := then_cut aft
  have hup := aft.up
  have hdom := aft.dom (Ren.cut_dom ρ M.next)
  -- what a name holds
  have hA : ∀ x o b, thenA A M M' x = some (o, b) → (M'.get x = some o ∧ b = M'.next) ∨ (M'.get x = none ∧ M.get x = none ∧ A x = some (o, b)) := fun x o b hx => by
    unfold thenA at hx
    split at hx
    · rename_i o' ho'; cases hx; exact .inl ⟨ho', rfl⟩
    · rename_i hn
      split at hx
      · cases hx
      · rename_i hn'; exact .inr ⟨hn, hn', hx⟩
  -- blocks outside
  have hout : ∀ x o b l, M.get x = none → A x = some (o, b) → ρ x = some l → l.blk < w.heap.size ∧ ¬ Mine (ρ.cut M.next) M l.blk := fun x o b l hn hx hl => by
    obtain ⟨_, l1, hl1, hor⟩ := m.obj x o b hx
    rw [hl] at hl1
    cases hl1
    refine ⟨hor.lt, ?_⟩
    rintro ⟨y, oy, ly, hy, _, hly, hblk⟩
    obtain ⟨b', _, hAy⟩ := hM y oy hy
    have hne : y ≠ x := fun e => by rw [e, hn] at hy; cases hy
    exact m.inj y x oy o b' b ly l hne hAy hx (Ren.cut_le _ _ _ _ hly) hl hblk
  -- objects inside and outside lie apart
  have hio : ∀ x o lx x' o' b' l', M'.get x = some o → (ρ.then ρ' M'.next) x = some lx → M.get x' = none → A x' = some (o', b') → ρ x' = some l' → x ≠ x' → lx.blk ≠ l'.blk := fun x o lx x' o' b' l' hx hlx hn' hx' hl' hne e => by
    obtain ⟨hlt', hnm⟩ := hout x' o' b' l' hn' hx' hl'
    obtain ⟨l1, hl1, _⟩ := aft.rep.obj x o hx
    have hxl : x < M'.next := dom_lt hdom hl1
    have hl2 : ρ' x = some lx := by
      unfold Ren.then at hlx
      rw [if_pos hxl] at hlx
      exact hlx
    cases hro : o.ro with
    | false =>
      rcases aft.fr.fresh lx.blk ⟨x, o, lx, hx, hro, hl2, rfl⟩ with h1 | h1
      · omega
      · rw [e] at h1; exact hnm h1
    | true =>
      have hMx := aft.fr.ro x o hx hro
      obtain ⟨b, _, hAx⟩ := hM x o hMx
      obtain ⟨_, l3, hl3, _⟩ := m.obj x o b hAx
      have := hle _ _ hl3
      rw [hlx] at this
      cases this
      exact m.inj x x' o o' b b' lx l' hne hAx hx' hl3 hl' e
  refine ⟨m.le.trans hle, fun x l hx => ?_, fun x o b hx => ?_, fun x x' o o' b b' l l' hne hx hx' hl hl' => ?_, aft.fr.os.trans m.os, aft.fr.tape.trans m.tape, aft.fr.output.trans m.output, Nat.le_trans m.size aft.fr.size, fun k hk' hnm => ?_, fun x o b l hx hro hl => ?_, fun x o b hx hro => ?_⟩
  · by_cases hlt : x < M.next
    · rw [then_lt aft hlt] at hx; exact m.low x l hx
    · exact .inr (by omega)
  · rcases hA x o b hx with ⟨h1, rfl⟩ | ⟨_, h2, h3⟩
    · obtain ⟨l, hl, hor⟩ := aft.rep.obj x o h1
      have hxl : x < M'.next := dom_lt hdom hl
      refine ⟨hxl, l, ?_, ?_⟩
      · unfold Ren.then; rw [if_pos hxl]; exact hl
      · rw [hcut]; exact hor
    · obtain ⟨hb, l, hl, hor⟩ := m.obj x o b h3
      obtain ⟨hlt, hnm⟩ := hout x o b l h2 h3 hl
      exact ⟨hb, l, hle _ _ hl, (hor.mono (Ren.cut_mono (Nat.le_refl _) hle)).congr (aft.fr.keep _ hlt hnm)⟩
  · rcases hA x o b hx with ⟨h1, _⟩ | ⟨_, h2, h3⟩ <;> rcases hA x' o' b' hx' with ⟨h1', _⟩ | ⟨_, h2', h3'⟩
    · obtain ⟨l1, hl1, _⟩ := aft.rep.obj x o h1
      obtain ⟨l2, hl2, _⟩ := aft.rep.obj x' o' h1'
      have e1 : ρ' x = some l := by unfold Ren.then at hl; rw [if_pos (dom_lt hdom hl1)] at hl; exact hl
      have e2 : ρ' x' = some l' := by unfold Ren.then at hl'; rw [if_pos (dom_lt hdom hl2)] at hl'; exact hl'
      exact aft.rep.inj x x' o o' l l' hne h1 h1' e1 e2
    · obtain ⟨_, l2, hl2, _⟩ := m.obj x' o' b' h3'
      have := hle _ _ hl2
      rw [hl'] at this
      cases this
      exact hio x o l x' o' b' l' h1 hl h2' h3' hl2 hne
    · obtain ⟨_, l2, hl2, _⟩ := m.obj x o b h3
      have := hle _ _ hl2
      rw [hl] at this
      cases this
      exact fun e => hio x' o' l' x o b l h1' hl' h2 h3 hl2 (fun e => hne e.symm) e.symm
    · obtain ⟨_, l2, hl2, _⟩ := m.obj x o b h3
      obtain ⟨_, l3, hl3, _⟩ := m.obj x' o' b' h3'
      have q2 := hle _ _ hl2
      rw [hl] at q2
      cases q2
      have q3 := hle _ _ hl3
      rw [hl'] at q3
      cases q3
      exact m.inj x x' o o' b b' l l' hne h3 h3' hl2 hl3
  · refine (aft.fr.keep k (Nat.lt_of_lt_of_le hk' m.size) ?_).trans (m.keep k hk' hnm)
    rintro ⟨y, oy, ly, hy, hyr, hly, rfl⟩
    obtain ⟨b, _, hAy⟩ := hM y oy hy
    rcases m.fresh y oy b ly hAy hyr (Ren.cut_le _ _ _ _ hly) with h1 | h1
    · omega
    · exact hnm h1
  · rcases hA x o b hx with ⟨h1, _⟩ | ⟨_, h2, h3⟩
    · obtain ⟨l1, hl1, _⟩ := aft.rep.obj x o h1
      have e1 : ρ' x = some l := by unfold Ren.then at hl; rw [if_pos (dom_lt hdom hl1)] at hl; exact hl
      rcases aft.fr.fresh l.blk ⟨x, o, l, h1, hro, e1, rfl⟩ with h4 | ⟨y, oy, ly, hy, hyr, hly, hblk⟩
      · exact .inl (Nat.le_trans m.size h4)
      · obtain ⟨b, _, hAy⟩ := hM y oy hy
        rw [← hblk]
        exact m.fresh y oy b ly hAy hyr (Ren.cut_le _ _ _ _ hly)
    · obtain ⟨_, l2, hl2, _⟩ := m.obj x o b h3
      have := hle _ _ hl2
      rw [hl] at this
      cases this
      exact m.fresh x o b l h3 hro hl2
  · rcases hA x o b hx with ⟨h1, _⟩ | ⟨_, h2, h3⟩
    · have hMx := aft.fr.ro x o h1 hro
      obtain ⟨b', _, hAx⟩ := hM x o hMx
      exact m.ro x o b' hAx hro
    · exact m.ro x o b h3 hro

end

/-- At the end, all of it. -/
theorem Mm.aft (m : Mm K ρ0 h w0 ρ A w) (hr0 : Rep K ρ0 h w0) (hd0 : Dom ρ0 h.next) (hk : h.next ≤ M.next) (hM : ∀ x o, M.get x = some o → ∃ b, b ≤ M.next ∧ A x = some (o, b)) : Aft K ρ0 h w0 (ρ.cut M.next) M w := by
  refine ⟨fun x l hx => ?_, fun x l hx => ?_, m.rep hr0 hd0 hk hM, ⟨m.os, m.tape, m.output, m.size, m.keep, ?_, fun x o hx hro => ?_⟩, hk⟩
  · have := dom_lt hd0 hx
    rw [Ren.cut_lt (by omega)]
    exact m.le _ _ hx
  · have h1 := dom_lt (Ren.cut_dom ρ M.next) hx
    rcases m.low x l (Ren.cut_le _ _ _ _ hx) with h2 | h2
    · exact .inl h2
    · exact .inr ⟨h2, h1⟩
  · rintro k ⟨x, o, l, hx, hro, hl, rfl⟩
    obtain ⟨b, _, hA⟩ := hM x o hx
    exact m.fresh x o b l hA hro (Ren.cut_le _ _ _ _ hl)
  · obtain ⟨b, _, hA⟩ := hM x o hx
    exact m.ro x o b hA hro

/-- At the start. -/
theorem Mm.start (hr0 : Rep K ρ0 h w0) (hd0 : Dom ρ0 h.next) : Mm K ρ0 h w0 ρ0 (fun x => match h.get x with | some o => some (o, h.next) | none => none) w0 := by
  have hA : ∀ x o b, (match h.get x with | some o => some (o, h.next) | none => none : Option (O × Nat)) = some (o, b) → h.get x = some o ∧ b = h.next := fun x o b hx => by
    split at hx
    · rename_i ho; cases hx; exact ⟨ho, rfl⟩
    · cases hx
  have hcut : ρ0.cut h.next = ρ0 := by
    funext x
    unfold Ren.cut
    split
    · rfl
    · exact (hd0 x (by omega)).symm
  refine ⟨Ren.le.refl _, fun x l hx => .inl hx, fun x o b hx => ?_, fun x x' o o' b b' l l' hne hx hx' hl hl' => ?_, rfl, rfl, rfl, Nat.le_refl _, fun _ _ _ => rfl, fun x o b l hx hro hl => ?_, fun x o b hx _ => (hA x o b hx).1⟩
  · obtain ⟨h1, rfl⟩ := hA x o b hx
    obtain ⟨l, hl, hor⟩ := hr0.obj x o h1
    exact ⟨dom_lt hd0 hl, l, hl, by rw [hcut]; exact hor⟩
  · exact hr0.inj x x' o o' l l' hne (hA x o b hx).1 (hA x' o' b' hx').1 hl hl'
  · exact .inr ⟨x, o, l, (hA x o b hx).1, hro, hl, rfl⟩

end
end Go.Ev
