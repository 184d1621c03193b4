/- Names below a number. -/
import Derived.Test.YtkpiafihfmafkaaGreatDoorEvSound
namespace Go.Ev
open Go.RowKit

def ScC (k : Nat) : C → Prop
  | .ptr n _ => n < k
  | .slice n _ _ _ => n < k
  | .map n => n < k
  | .fn _ a b => (∀ p, some p ∈ a → p.1 < k) ∧ ∀ p, some p ∈ b → p.1 < k
  | .yield n => n < k
  | _ => True
def ScW (k : Nat) : W → Prop
  | .c x => ScC k x
  | .g l => ∀ x ∈ l, ScC k x
def ScV (k : Nat) : V → Prop
  | .w x => ScW k x
  | .tup l => ∀ x ∈ l, ScW k x
def ScO (k : Nat) : O → Prop
  | .row sz els _ => ∀ i c, read1 sz els i = some c → ScC k c
  | .map es => ∀ e ∈ es, ScW k e.1 ∧ ScW k e.2
  | .loop ts _ _ _ _ _ _ d => (∀ i, ScV k (evalT ts i)) ∧ d < k
  | .iter (some m) => m < k
  | _ => True

/-- The names below a number. -/
def Ren.cut (ρ : Ren) (k : Nat) : Ren := fun n => if n < k then ρ n else none
theorem Ren.cut_le (ρ : Ren) (k : Nat) : Ren.le (ρ.cut k) ρ := fun n l h => by
  unfold Ren.cut at h
  split at h
  · exact h
  · cases h
theorem Ren.cut_dom (ρ : Ren) (k : Nat) : Dom (ρ.cut k) k := fun n hn => by
  unfold Ren.cut
  rw [if_neg (by omega)]
theorem Ren.cut_lt {ρ : Ren} {k n : Nat} (h : n < k) : ρ.cut k n = ρ n := by
  unfold Ren.cut
  rw [if_pos h]

section
variable {ρ : Ren} {k : Nat} {w : World}

theorem dom_lt (hd : Dom ρ k) {n : Nat} {l : Loc} (h : ρ n = some l) : n < k := by
  by_cases e : n < k
  · exact e
  · rw [hd n (by omega)] at h; cases h

theorem all2_mem {α β : Type} {R : α → β → Prop} : ∀ {l : List α} {m : List β}, All2 R l m → ∀ a ∈ l, ∃ b, R a b
  | [], _, _, a, h => by simp at h
  | x :: l, y :: m, hh, a, h => by
    rcases List.mem_cons.1 h with rfl | h
    · exact ⟨y, hh.1⟩
    · exact all2_mem hh.2 a h
  | _ :: _, [], hh, _, _ => hh.elim
theorem All2.mono_mem {α β : Type} {R R' : α → β → Prop} : ∀ {l : List α} {m : List β}, All2 R l m → (∀ a b, a ∈ l → R a b → R' a b) → All2 R' l m
  | [], [], _, _ => trivial
  | _ :: _, _ :: _, hh, h => ⟨h _ _ (by simp) hh.1, All2.mono_mem hh.2 (fun a b ha => h a b (by simp [ha]))⟩
  | [], _ :: _, hh, _ => hh.elim
  | _ :: _, [], hh, _ => hh.elim

theorem Con.sc (hd : Dom ρ k) : ∀ {c : C} {v : Value}, Con ρ c v → ScC k c := by
  intro c v h
  cases c <;> simp only [Con, ConP] at h <;> simp only [ScC]
  case ptr => obtain ⟨l, e, _⟩ := h; exact dom_lt hd e
  case slice => obtain ⟨l, _, _, e, _⟩ := h; exact dom_lt hd e
  case map => obtain ⟨l, e, _⟩ := h; exact dom_lt hd e
  case fn =>
    obtain ⟨a, b, _, h1, h2⟩ := h
    refine ⟨fun p hp => ?_, fun p hp => ?_⟩
    · obtain ⟨v, l, e, _⟩ := all2_mem h1 (some p) hp; exact dom_lt hd e
    · obtain ⟨v, l, e, _⟩ := all2_mem h2 (some p) hp; exact dom_lt hd e
  case yield => obtain ⟨l, e, _⟩ := h; exact dom_lt hd e
theorem ConW.sc (hd : Dom ρ k) : ∀ {x : W} {v : Value}, ConW ρ x v → ScW k x
  | .c _, _, h => Con.sc hd h
  | .g l, _, ⟨cs, _, h⟩ => fun x hx => by obtain ⟨v, hv⟩ := all2_mem h x hx; exact Con.sc hd hv
theorem ConV.sc (hd : Dom ρ k) : ∀ {x : V} {v : Value}, ConV ρ x v → ScV k x
  | .w _, _, h => ConW.sc hd h
  | .tup l, _, ⟨cs, _, h⟩ => fun x hx => by obtain ⟨v, hv⟩ := all2_mem h x hx; exact ConW.sc hd hv
theorem TRel.sc (hd : Dom ρ k) {n : Nat} {ts : Tmps} {tmps : Array Value} (h : TRel ρ n ts tmps) (i : Nat) : ScV k (evalT ts i) := ConV.sc hd (h.2 i)
theorem ORel.sc (hd : Dom ρ k) {o : O} {l : Loc} (h : ORel ρ w o l) : ScO k o := by
  cases o <;> simp only [ORel] at h <;> simp only [ScO]
  case row =>
    obtain ⟨cs, t, fr, _, _, _, _, h⟩ := h
    intro i c hc
    obtain ⟨v, _, hv⟩ := h i c hc
    exact Con.sc hd hv
  case map =>
    obtain ⟨xs, clock, _, h, _⟩ := h
    intro e he
    obtain ⟨x, h1, h2⟩ := all2_mem h e he
    exact ⟨ConW.sc hd h1, ConW.sc hd h2⟩
  case loop =>
    obtain ⟨r, _, _, _, h, _, _, _, ld, hld, _⟩ := h
    exact ⟨fun i => TRel.sc hd h i, dom_lt hd hld⟩
  case iter m =>
    cases m with
    | none => trivial
    | some m => obtain ⟨_, lm, _, _, _, hm, _⟩ := h; exact dom_lt hd hm

theorem ConP.cut {p : Nat × Nat} {v : Value} (h : ConP ρ p v) (hs : p.1 < k) : ConP (ρ.cut k) p v := by
  obtain ⟨l, e, r⟩ := h
  exact ⟨l, by rw [Ren.cut_lt hs]; exact e, r⟩
theorem ConQ.cut : ∀ {p : Option (Nat × Nat)} {v : Value}, ConQ ρ p v → (∀ q, p = some q → q.1 < k) → ConQ (ρ.cut k) p v
  | some _, _, h, hs => ConP.cut h (hs _ rfl)
  | none, _, h, _ => h
theorem Con.cut : ∀ {c : C} {v : Value}, Con ρ c v → ScC k c → Con (ρ.cut k) c v := by
  intro c v h hs
  cases c <;> simp only [ScC] at hs <;> simp only [Con] at h ⊢
  case ptr => exact ConP.cut h hs
  case slice => obtain ⟨l, a, cap, e, r⟩ := h; exact ⟨l, a, cap, by rw [Ren.cut_lt hs]; exact e, r⟩
  case map => obtain ⟨l, e, r⟩ := h; exact ⟨l, by rw [Ren.cut_lt hs]; exact e, r⟩
  case fn =>
    obtain ⟨a, b, e, h1, h2⟩ := h
    exact ⟨a, b, e, h1.mono_mem (fun p v hp hc => hc.cut (fun q e => hs.1 q (e ▸ hp))), h2.mono_mem (fun p v hp hc => hc.cut (fun q e => hs.2 q (e ▸ hp)))⟩
  case yield => obtain ⟨l, e, r⟩ := h; exact ⟨l, by rw [Ren.cut_lt hs]; exact e, r⟩
  all_goals exact h
theorem ConW.cut : ∀ {x : W} {v : Value}, ConW ρ x v → ScW k x → ConW (ρ.cut k) x v
  | .c _, _, h, hs => Con.cut h hs
  | .g _, _, ⟨cs, e, h⟩, hs => ⟨cs, e, h.mono_mem (fun c _v hc hv => hv.cut (hs c hc))⟩
theorem ConV.cut : ∀ {x : V} {v : Value}, ConV ρ x v → ScV k x → ConV (ρ.cut k) x v
  | .w _, _, h, hs => ConW.cut h hs
  | .tup _, _, ⟨cs, e, h⟩, hs => ⟨cs, e, h.mono_mem (fun c _v hc hv => hv.cut (hs c hc))⟩
theorem ORel.cut {o : O} {l : Loc} (h : ORel ρ w o l) (hs : ScO k o) : ORel (ρ.cut k) w o l := by
  cases o <;> simp only [ScO] at hs <;> simp only [ORel] at h ⊢
  case row =>
    obtain ⟨cs, t, fr, a, b, c, d, h⟩ := h
    exact ⟨cs, t, fr, a, b, c, d, fun i x hx => let ⟨v, hv, hc⟩ := h i x hx; ⟨v, hv, hc.cut (hs i x hx)⟩⟩
  case map =>
    obtain ⟨xs, clock, a, h, b⟩ := h
    exact ⟨xs, clock, a, h.mono_mem (fun e x he hx => ⟨hx.1.cut (hs e he).1, hx.2.cut (hs e he).2⟩), b⟩
  case loop =>
    obtain ⟨r, a, b, c, h, e, f, g, ld, hld, hdf⟩ := h
    exact ⟨r, a, b, c, ⟨h.1, fun i => (h.2 i).cut (hs.1 i)⟩, e, f, g, ld, by rw [Ren.cut_lt hs.2]; exact hld, hdf⟩
  case defers => exact h
  case iter m =>
    cases m with
    | none => exact h
    | some m => obtain ⟨z, lm, s, c, k', hm, hb⟩ := h; exact ⟨z, lm, s, c, k', by rw [Ren.cut_lt hs]; exact hm, hb⟩

/-- The memory of canonical names, in a world of its own numbering. -/
theorem Rep.cut {K : Cfg} {h : H} (hr : Rep K ρ h w) (hs : ∀ n o, h.get n = some o → n < k ∧ ScO k o) (hg : ∀ g n, K.globs.get g = some n → n < k) : Rep K (ρ.cut k) h w := by
  refine ⟨fun g n hgn => ?_, fun n o ho => ?_, fun n n' o o' l l' hne ho ho' hl hl' => hr.inj n n' o o' l l' hne ho ho' (Ren.cut_le ρ k _ _ hl) (Ren.cut_le ρ k _ _ hl')⟩
  · obtain ⟨r, e⟩ := hr.glob g n hgn
    exact ⟨r, by rw [Ren.cut_lt (hg g n hgn)]; exact e⟩
  · obtain ⟨l, e, hor⟩ := hr.obj n o ho
    obtain ⟨h1, h2⟩ := hs n o ho
    exact ⟨l, by rw [Ren.cut_lt h1]; exact e, hor.cut h2⟩

theorem Rep.sc {K : Cfg} {h : H} (hr : Rep K ρ h w) (hd : Dom ρ k) : (∀ n o, h.get n = some o → n < k ∧ ScO k o) ∧ ∀ g n, K.globs.get g = some n → n < k :=
  ⟨fun n o ho => by obtain ⟨l, e, hor⟩ := hr.obj n o ho; exact ⟨dom_lt hd e, hor.sc hd⟩, fun g n hg => by obtain ⟨r, e⟩ := hr.glob g n hg; exact dom_lt hd e⟩

theorem Rep.mono {K : Cfg} {h : H} {ρ' : Ren} (hr : Rep K ρ h w) (hle : Ren.le ρ ρ') : Rep K ρ' h w := by
  refine ⟨fun g n hg => ?_, fun n o ho => ?_, fun n n' o o' l l' hne ho ho' hl hl' => ?_⟩
  · obtain ⟨r, e⟩ := hr.glob g n hg; exact ⟨r, hle _ _ e⟩
  · obtain ⟨l, e, hor⟩ := hr.obj n o ho; exact ⟨l, hle _ _ e, hor.mono hle⟩
  · obtain ⟨l1, e1, _⟩ := hr.obj n o ho
    obtain ⟨l2, e2, _⟩ := hr.obj n' o' ho'
    have := hle _ _ e1
    rw [hl] at this
    cases this
    have := hle _ _ e2
    rw [hl'] at this
    cases this
    exact hr.inj n n' o o' l l' hne ho ho' e1 e2

theorem Rep.sub {K : Cfg} {h h' : H} (hr : Rep K ρ h w) (hs : ∀ n o, h'.get n = some o → h.get n = some o) : Rep K ρ h' w :=
  ⟨hr.glob, fun n o ho => hr.obj n o (hs n o ho), fun n n' o o' l l' hne ho ho' => hr.inj n n' o o' l l' hne (hs n o ho) (hs n' o' ho')⟩

/-- An object that lies there is put in. -/
theorem Rep.add {K : Cfg} {h : H} (hr : Rep K ρ h w) {n : Nat} {o : O} {l : Loc} (hl : ρ n = some l) (hor : ORel ρ w o l) (hap : ∀ m x lm, m ≠ n → h.get m = some x → ρ m = some lm → lm.blk ≠ l.blk) : Rep K ρ (h.put n o) w := by
  refine ⟨hr.glob, fun m x hx => ?_, fun m m' x x' lm lm' hne hx hx' hlm hlm' => ?_⟩
  · rw [H.get_put] at hx
    split at hx
    · rename_i e; subst e; cases hx; exact ⟨l, hl, hor⟩
    · exact hr.obj m x hx
  · rw [H.get_put] at hx hx'
    split at hx
    · rename_i e
      subst e
      cases hx
      rw [hl] at hlm
      cases hlm
      rw [if_neg (fun e => hne e.symm)] at hx'
      exact fun e => hap m' x' lm' (fun e => hne e.symm) hx' hlm' e.symm
    · rename_i e
      split at hx'
      · rename_i e'
        subst e'
        cases hx'
        rw [hl] at hlm'
        cases hlm'
        exact hap m x lm e hx hlm
      · exact hr.inj m m' x x' lm lm' hne hx hx' hlm hlm'

end
end Go.Ev
