/- What the evaluator's memory says of a world. -/
import Derived.Test.YtkpiafihfmafkaaGreatDoorEvTree
import Derived.RowKit
import Derived.CallsIn
namespace Go.Ev

/-- Where a name lies: its block, the first cell that is meant, how many cells the block has. -/
structure Loc where
  blk : Nat
  base : Nat
  room : Nat

abbrev Ren := Nat → Option Loc
def Ren.le (ρ ρ' : Ren) : Prop := ∀ n l, ρ n = some l → ρ' n = some l
theorem Ren.le.refl (ρ : Ren) : Ren.le ρ ρ := fun _ _ h => h
theorem Ren.le.trans {a b c : Ren} (h : Ren.le a b) (k : Ren.le b c) : Ren.le a c := fun n l e => k n l (h n l e)
def Ren.set (ρ : Ren) (n : Nat) (l : Loc) : Ren := fun j => if j = n then some l else ρ j
theorem Ren.set_same (ρ : Ren) (n : Nat) (l : Loc) : ρ.set n l n = some l := by simp [Ren.set]
theorem Ren.set_ne (ρ : Ren) {n j : Nat} (l : Loc) (h : j ≠ n) : ρ.set n l j = ρ j := by simp [Ren.set, h]
theorem Ren.le_set {ρ : Ren} {n : Nat} (h : ρ n = none) (l : Loc) : Ren.le ρ (ρ.set n l) := fun j x e => by
  by_cases hj : j = n
  · subst hj; rw [h] at e; cases e
  · rw [Ren.set_ne ρ l hj, e]

def Loc.at (l : Loc) (off : Nat) : Addr := ⟨l.blk, l.base + off, none⟩

/-- A pointer. -/
def ConP (ρ : Ren) (p : Nat × Nat) (v : Value) : Prop := ∃ l, ρ p.1 = some l ∧ v = .pointer (some (l.at p.2))
/-- A pointer, or none. -/
def ConQ (ρ : Ren) : Option (Nat × Nat) → Value → Prop
  | some p, v => ConP ρ p v
  | none, v => v = .pointer none
/-- Two lists, one by one. -/
def All2 {α β : Type} (R : α → β → Prop) : List α → List β → Prop
  | [], [] => True
  | a :: l, b :: m => R a b ∧ All2 R l m
  | _, _ => False

/-- A cell's value. -/
def Con (ρ : Ren) : C → Value → Prop
  | .bool b, v => v = .bool b
  | .int k n, v => v = .int k n
  | .str s, v => v = .string ⟨⟨s⟩⟩
  | .ptr n off, v => ConP ρ (n, off) v
  | .pnil, v => v = .pointer none
  | .slice n off len sz, v => ∃ l a cap, ρ n = some l ∧ v = .slice (some a) len cap ∧ (len = 0 ∧ cap = 0 ∨ a = l.at off ∧ len ≤ cap ∧ l.base + off + cap * sz ≤ l.room)
  | .snil, v => v = .slice none 0 0
  | .map n, v => ∃ l, ρ n = some l ∧ v = .map (some l.blk)
  | .mnil, v => v = .map none
  | .fn f first caps, v => ∃ a b, v = .func (.func f) a b ∧ All2 (ConQ ρ) first a.toList ∧ All2 (ConQ ρ) caps b.toList
  | .yield n, v => ∃ l, ρ n = some l ∧ v = .func (.yield l.blk) #[] #[]
  | .nilFn, v => v = .nilFunc

def ConW (ρ : Ren) : W → Value → Prop
  | .c x, v => Con ρ x v
  | .g l, v => ∃ cs, v = .agg cs ∧ All2 (Con ρ) l cs.toList
def ConV (ρ : Ren) : V → Value → Prop
  | .w x, v => ConW ρ x v
  | .tup l, v => ∃ vs, v = .tuple vs ∧ All2 (ConW ρ) l vs.toList

section
variable {α β : Type} {R R' : α → β → Prop}
theorem All2.mono (h : ∀ a b, R a b → R' a b) : ∀ {l : List α} {m : List β}, All2 R l m → All2 R' l m
  | [], [], _ => trivial
  | _ :: _, _ :: _, hh => ⟨h _ _ hh.1, All2.mono h hh.2⟩
  | [], _ :: _, hh => hh.elim
  | _ :: _, [], hh => hh.elim
theorem All2.length : ∀ {l : List α} {m : List β}, All2 R l m → l.length = m.length
  | [], [], _ => rfl
  | _ :: _, _ :: _, hh => by simp [All2.length hh.2]
  | [], _ :: _, hh => hh.elim
  | _ :: _, [], hh => hh.elim
theorem All2.get : ∀ {l : List α} {m : List β}, All2 R l m → ∀ (i : Nat) (a : α), l[i]? = some a → ∃ b, m[i]? = some b ∧ R a b
  | _ :: _, y :: _, hh, 0, a, h => ⟨y, rfl, by simp at h; exact h ▸ hh.1⟩
  | _ :: l, _ :: m, hh, i + 1, a, h => by
    simp at h
    obtain ⟨b, hb, hr⟩ := All2.get hh.2 i a h
    exact ⟨b, by simpa using hb, hr⟩
  | [], _, _, _, _, h => by simp at h
  | _ :: _, [], hh, _, _, _ => hh.elim
theorem All2.append : ∀ {l l' : List α} {m m' : List β}, All2 R l m → All2 R l' m' → All2 R (l ++ l') (m ++ m')
  | [], _, [], _, _, k => k
  | _ :: _, _, _ :: _, _, h, k => ⟨h.1, All2.append h.2 k⟩
  | [], _, _ :: _, _, h, _ => h.elim
  | _ :: _, _, [], _, h, _ => h.elim
theorem All2.take : ∀ {l : List α} {m : List β} (n : Nat), All2 R l m → All2 R (l.take n) (m.take n)
  | _, _, 0, _ => by simp [All2]
  | [], [], _ + 1, _ => trivial
  | _ :: _, _ :: _, n + 1, h => ⟨h.1, All2.take n h.2⟩
  | [], _ :: _, _, h => h.elim
  | _ :: _, [], _, h => h.elim
theorem All2.drop : ∀ {l : List α} {m : List β} (n : Nat), All2 R l m → All2 R (l.drop n) (m.drop n)
  | _, _, 0, h => h
  | [], [], _ + 1, _ => trivial
  | _ :: _, _ :: _, n + 1, h => All2.drop n h.2
  | [], _ :: _, _, h => h.elim
  | _ :: _, [], _, h => h.elim
/-- The other list, out of pieces. -/
theorem All2.of_get : ∀ {l : List α} {m : List β}, l.length = m.length → (∀ (i : Nat) a b, l[i]? = some a → m[i]? = some b → R a b) → All2 R l m
  | [], [], _, _ => trivial
  | a :: l, b :: m, h, k => ⟨k 0 a b rfl rfl, All2.of_get (by simpa using h) (fun i x y hx hy => k (i + 1) x y (by simpa using hx) (by simpa using hy))⟩
  | [], _ :: _, h, _ => by simp at h
  | _ :: _, [], h, _ => by simp at h
end

theorem ConP.mono {ρ ρ' : Ren} (h : Ren.le ρ ρ') {p : Nat × Nat} {v : Value} (k : ConP ρ p v) : ConP ρ' p v := by
  obtain ⟨l, e, r⟩ := k
  exact ⟨l, h _ _ e, r⟩
theorem ConQ.mono {ρ ρ' : Ren} (h : Ren.le ρ ρ') : ∀ {p : Option (Nat × Nat)} {v : Value}, ConQ ρ p v → ConQ ρ' p v
  | some _, _, k => ConP.mono h k
  | none, _, k => k
theorem Con.mono {ρ ρ' : Ren} (h : Ren.le ρ ρ') : ∀ {c : C} {v : Value}, Con ρ c v → Con ρ' c v
  | .bool _, _, k => k
  | .int _ _, _, k => k
  | .str _, _, k => k
  | .ptr _ _, _, k => ConP.mono h k
  | .pnil, _, k => k
  | .slice _ _ _ _, _, k => by
    obtain ⟨l, a, cap, e, r⟩ := k
    exact ⟨l, a, cap, h _ _ e, r⟩
  | .snil, _, k => k
  | .map _, _, k => by
    obtain ⟨l, e, r⟩ := k
    exact ⟨l, h _ _ e, r⟩
  | .mnil, _, k => k
  | .fn _ _ _, _, k => by
    obtain ⟨a, b, e, x, y⟩ := k
    exact ⟨a, b, e, x.mono (fun _ _ => ConQ.mono h), y.mono (fun _ _ => ConQ.mono h)⟩
  | .yield _, _, k => by
    obtain ⟨l, e, r⟩ := k
    exact ⟨l, h _ _ e, r⟩
  | .nilFn, _, k => k
theorem ConW.mono {ρ ρ' : Ren} (h : Ren.le ρ ρ') : ∀ {c : W} {v : Value}, ConW ρ c v → ConW ρ' c v
  | .c _, _, k => Con.mono h k
  | .g _, _, k => by
    obtain ⟨cs, e, r⟩ := k
    exact ⟨cs, e, r.mono (fun _ _ => Con.mono h)⟩
theorem ConV.mono {ρ ρ' : Ren} (h : Ren.le ρ ρ') : ∀ {c : V} {v : Value}, ConV ρ c v → ConV ρ' c v
  | .w _, _, k => ConW.mono h k
  | .tup _, _, k => by
    obtain ⟨cs, e, r⟩ := k
    exact ⟨cs, e, r.mono (fun _ _ => ConW.mono h)⟩

/-- A cell's value takes one cell. -/
theorem Con.one {ρ : Ren} {c : C} {v : Value} (h : Con ρ c v) : v.oneCell' = true ∧ v.cells = #[v] := by
  cases c <;> simp only [Con, ConP] at h
  case ptr => obtain ⟨l, _, rfl⟩ := h; exact ⟨rfl, rfl⟩
  case slice => obtain ⟨l, a, cap, _, rfl, _⟩ := h; exact ⟨rfl, rfl⟩
  case map => obtain ⟨l, _, rfl⟩ := h; exact ⟨rfl, rfl⟩
  case fn => obtain ⟨a, b, rfl, _⟩ := h; exact ⟨rfl, rfl⟩
  case yield => obtain ⟨l, _, rfl⟩ := h; exact ⟨rfl, rfl⟩
  all_goals (subst h; exact ⟨rfl, rfl⟩)
theorem ConW.cells {ρ : Ren} : ∀ {x : W} {v : Value}, ConW ρ x v → All2 (Con ρ) x.cells v.cells.toList
  | .c x, v, h => by
    have := (Con.one h).2
    rw [this]
    exact ⟨h, trivial⟩
  | .g l, v, h => by
    obtain ⟨cs, rfl, k⟩ := h
    exact k

/-! ### A frame's slots -/
def TRel (ρ : Ren) (n : Nat) (ts : Tmps) (tmps : Array Value) : Prop := tmps.size = n ∧ ∀ i, ConV ρ (evalT ts i) (tmps.getD i Go.undef)
theorem TRel.mono {ρ ρ' : Ren} (h : Ren.le ρ ρ') {n : Nat} {ts : Tmps} {tmps : Array Value} (k : TRel ρ n ts tmps) : TRel ρ' n ts tmps := ⟨k.1, fun i => (k.2 i).mono h⟩
theorem conV_undef (ρ : Ren) : ConV ρ undef Go.undef := ⟨#[], rfl, trivial⟩

/-! ### Objects -/
def O.ro : O → Bool
  | .row _ _ ro => ro
  | _ => false

/-- Entries in the order of their birth. -/
structure Born (xs : List MapEntry) (clock : Nat) : Prop where
  up : xs.Pairwise (fun a b => a.born < b.born)
  old : ∀ e ∈ xs, e.born < clock
  apart : xs.Pairwise (fun a b => ∀ q n, a.key = .int q n → b.key ≠ .int q n)

def ConE (ρ : Ren) (p : W × W) (e : MapEntry) : Prop := ConW ρ p.1 e.key ∧ ConW ρ p.2 e.val

def ORel (ρ : Ren) (w : World) : O → Loc → Prop
  | .row sz els ro, l => ∃ cs t fr, w.heap[l.blk]? = some (.cells cs t fr) ∧ cs.size = l.room ∧ (ro = false → ∀ i, i < l.room → ¬ (fr.1 ≤ i ∧ i < fr.2)) ∧ (∀ x ∈ els, x.length = sz) ∧ ∀ k c, read1 sz els k = some c → ∃ v, cs[l.base + k]? = some v ∧ Con ρ c v
  | .map es, l => ∃ xs clock, w.heap[l.blk]? = some (.map xs clock) ∧ All2 (ConE ρ) es xs.toList ∧ Born xs.toList clock
  | .loop ts n ps as bd st pend d, l => ∃ r : Loop, w.heap[l.blk]? = some (.loop r) ∧ r.state = st ∧ r.pending = pend ∧ TRel ρ n ts r.tmps ∧ r.params.toList = ps ∧ r.assign = as ∧ r.body = bd ∧ ∃ ld, ρ d = some ld ∧ r.defers = ld.blk
  | .defers, l => w.heap[l.blk]? = some (.deferred (some []))
  | .iter none, l => l.base = 0 ∧ ∃ s c k, w.heap[l.blk]? = some (.mapIter none s c k)
  | .iter (some m), l => l.base = 0 ∧ ∃ lm s c k, ρ m = some lm ∧ w.heap[l.blk]? = some (.mapIter (some lm.blk) s c k)

/-- The memory of names is that of the world. -/
structure Rep (K : Cfg) (ρ : Ren) (h : H) (w : World) : Prop where
  glob : ∀ g n, K.globs.get g = some n → ∃ r, ρ n = some ⟨g, 0, r⟩
  obj : ∀ n o, h.get n = some o → ∃ l, ρ n = some l ∧ ORel ρ w o l
  inj : ∀ n n' o o' l l', n ≠ n' → h.get n = some o → h.get n' = some o' → ρ n = some l → ρ n' = some l' → l.blk ≠ l'.blk

/-- New names are of a range. -/
def New (ρ ρ' : Ren) (a b : Nat) : Prop := ∀ n l, ρ' n = some l → ρ n = some l ∨ (a ≤ n ∧ n < b)
theorem New.refl (ρ : Ren) (a b : Nat) : New ρ ρ a b := fun _ _ h => .inl h
theorem New.set (ρ : Ren) (n : Nat) (l : Loc) : New ρ (ρ.set n l) n (n + 1) := fun m x h => by
  by_cases e : m = n
  · exact .inr (by omega)
  · rw [Ren.set_ne _ _ e] at h; exact .inl h
theorem New.trans {ρ ρ' ρ'' : Ren} {a b c : Nat} (h : New ρ ρ' a b) (k : New ρ' ρ'' b c) (hab : a ≤ b) (hbc : b ≤ c) : New ρ ρ'' a c := fun n l e => by
  rcases k n l e with e' | e'
  · rcases h n l e' with e'' | e''
    · exact .inl e''
    · exact .inr (by omega)
  · exact .inr (by omega)
/-- No name from a number on. -/
def Dom (ρ : Ren) (k : Nat) : Prop := ∀ n, k ≤ n → ρ n = none
theorem Dom.new {ρ ρ' : Ren} {a b : Nat} (h : Dom ρ a) (k : New ρ ρ' a b) (hab : a ≤ b) : Dom ρ' b := fun n hn => by
  cases e : ρ' n with
  | none => rfl
  | some l =>
    rcases k n l e with e' | e'
    · rw [h n (by omega)] at e'; cases e'
    · omega

/-- The blocks that may be written. -/
def Mine (ρ : Ren) (h : H) (k : Nat) : Prop := ∃ n o l, h.get n = some o ∧ o.ro = false ∧ ρ n = some l ∧ l.blk = k

/-- What lies elsewhere stays. -/
structure Fr (ρ : Ren) (h : H) (w : World) (ρ' : Ren) (h' : H) (w' : World) : Prop where
  os : w'.os = w.os
  tape : w'.tape = w.tape
  output : w'.output = w.output
  size : w.heap.size ≤ w'.heap.size
  keep : ∀ k, k < w.heap.size → ¬ Mine ρ h k → w'.heap[k]? = w.heap[k]?
  fresh : ∀ k, Mine ρ' h' k → w.heap.size ≤ k ∨ Mine ρ h k
  ro : ∀ n o, h'.get n = some o → o.ro = true → h.get n = some o

theorem Fr.refl (ρ : Ren) (h : H) (w : World) : Fr ρ h w ρ h w := ⟨rfl, rfl, rfl, Nat.le_refl _, fun _ _ _ => rfl, fun _ h => .inr h, fun _ _ h _ => h⟩
theorem Fr.trans {ρ ρ' ρ'' : Ren} {h h' h'' : H} {w w' w'' : World} (a : Fr ρ h w ρ' h' w') (b : Fr ρ' h' w' ρ'' h'' w'') : Fr ρ h w ρ'' h'' w'' := by
  refine ⟨b.os.trans a.os, b.tape.trans a.tape, b.output.trans a.output, Nat.le_trans a.size b.size, fun k hk hn => ?_, fun k hk => ?_, fun m o h1 h2 => a.ro m o (b.ro m o h1 h2) h2⟩
  · refine (b.keep k (Nat.lt_of_lt_of_le hk a.size) (fun hm => ?_)).trans (a.keep k hk hn)
    rcases a.fresh k hm with h1 | h1
    · omega
    · exact hn h1
  · rcases b.fresh k hk with h1 | h1
    · exact .inl (Nat.le_trans a.size h1)
    · exact a.fresh k h1

/-- The drawing of lots changes no memory. -/
theorem Rep.of_heap {K : Cfg} {ρ : Ren} {h : H} {w w' : World} (r : Rep K ρ h w) (e : w'.heap = w.heap) : Rep K ρ h w' := by
  refine ⟨r.glob, fun n o ho => ?_, r.inj⟩
  obtain ⟨l, hl, hr⟩ := r.obj n o ho
  refine ⟨l, hl, ?_⟩
  cases o <;> simp only [ORel] at hr ⊢
  case iter m => cases m <;> simp only at hr ⊢ <;> rw [e] <;> exact hr
  all_goals (rw [e]; exact hr)

theorem Fr.of_heap {ρ : Ren} {h : H} {w w' : World} (e : w'.heap = w.heap) (e1 : w'.os = w.os) (e2 : w'.tape = w.tape) (e3 : w'.output = w.output) : Fr ρ h w ρ h w' :=
  ⟨e1, e2, e3, by rw [e]; exact Nat.le_refl _, fun _ _ _ => by rw [e], fun _ h => .inr h, fun _ _ h _ => h⟩

end Go.Ev
