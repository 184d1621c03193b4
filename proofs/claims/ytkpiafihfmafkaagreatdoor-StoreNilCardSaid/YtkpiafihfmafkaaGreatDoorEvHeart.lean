/- What the evaluator knows by heart: maps.Clone. -/
import Derived.Test.YtkpiafihfmafkaaGreatDoorEvDraw7
namespace Go.Ev
open Go.RowKit

section
variable {K : Cfg} {P : Program} {ρ : Ren} {h h' : H} {w : World}

theorem callsIn_wd {r : Option Nat} {m : Nat} {f : FuncId} {args : Array Value} {R : Ending → World → Prop} (hc : Calls P f args w R) : CallsIn (Wd r) m P f args w R := by
  have h1 : CallsIn Fence.wide m P f args w R := callsIn_wide.2 hc
  exact h1

/-- A function that clones maps. -/
structure CloneC (P : Program) (f : FuncId) : Prop where
  call : Callable P f
  some : ∀ (w : World) (b : Nat) (es : Array MapEntry) (clock : Nat), w.heap[b]? = some (.map es clock) → Calls P f #[.map (some b)] w fun e w' => e = .returned (.map (some w.heap.size)) ∧ w' = w.alloc (.map es clock)
  none : ∀ w : World, Calls P f #[.map none] w fun e w' => e = .returned (.map none) ∧ w' = w

theorem clone_ok {f : FuncId} (c : CloneC P f) {args : List W} {v : V} (hv : opClone h args = some (.val v h')) {vals : List Value} {r : Option Nat} {m : Nat} (hr : Rep K ρ h w) (hd : Dom ρ h.next) (ha : All2 (ConW ρ) args vals) : CallsIn (Wd r) m P f vals.toArray w (PostV K ρ h w v h') := by
  unfold opClone at hv
  split at hv
  · cases hv
    obtain ⟨u, rfl, hu⟩ := all2_one ha
    have e : u = .map none := hu
    subst e
    refine (callsIn_wd (c.none w)).mono ?_
    rintro e w' ⟨rfl, rfl⟩
    exact ⟨ρ, _, rfl, Aft.refl hr, rfl⟩
  · rename_i n
    split at hv
    · rename_i es ho
      cases hv
      obtain ⟨u, rfl, l, hl, rfl⟩ := all2_one ha
      obtain ⟨l', hl', xs, clock, hb, hx, hborn⟩ := hr.obj n _ ho
      rw [hl] at hl'
      cases hl'
      refine (callsIn_wd (c.some w l.blk xs clock hb)).mono ?_
      rintro e w' ⟨rfl, rfl⟩
      have hn := hd h.next (Nat.le_refl _)
      obtain ⟨a1, a2, a3⟩ := hr.new hn (.map es) 0 (w' := w.alloc (.map xs clock)) (fun k hk => heap_alloc_lt _ hk) (heap_alloc_le _) ⟨xs, clock, heap_alloc_at _, hx.mono (fun _ _ h => ⟨h.1.mono (Ren.le_set hn _), h.2.mono (Ren.le_set hn _)⟩), hborn⟩ rfl rfl rfl
      exact ⟨_, _, rfl, ⟨a3, New.set _ _ _, a1, a2, Nat.le_succ _⟩, ⟨_, Ren.set_same _ _ _, rfl⟩⟩
    · cases hv
  · cases hv

end
end Go.Ev
