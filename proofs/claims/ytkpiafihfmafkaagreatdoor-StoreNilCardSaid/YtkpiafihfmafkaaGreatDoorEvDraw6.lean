/- Drawn regions: a state on the way, and the steps. -/
import Derived.Test.YtkpiafihfmafkaaGreatDoorEvDraw5
namespace Go.Ev
open Go.RowKit

section
variable {K : Cfg} {P : Program} {E : Task → Option Out} {L : List Oper} {n : Nat} {ts : Tmps} {h : H} {s : Nat → Dr} {Ls : Nat → Prop} {p p' : Nat} {ρ0 ρ ρ' : Ren} {w0 w w' : World} {A : Nat → Option (O × Nat)} {a a0 : Act} {rds : List Rd} {efs : List Ef} {i : Nat} {o : Oper} {v : V} {val : Value}

theorem slots_apart {oi oj : Oper} (hs : slotsOk2 L i oi oj = true) {t : Tmp} (h1 : oi.dst = some t) : oj.dst ≠ some t := fun h2 => by
  unfold slotsOk2 at hs
  rw [Bool.and_eq_true] at hs
  have := hs.1
  rw [h1, h2] at this
  simp at this

/-- Slots on the way. -/
structure Sl (L : List Oper) (n : Nat) (ts : Tmps) (s : Nat → Dr) (Ls : Nat → Prop) (p : Nat) (ρ : Ren) (a : Act) : Prop where
  size : a.tmps.size = n
  done : ∀ j oj t, Ls j → L[j]? = some oj → oj.dst = some t → ConV (ρ.cut (max (s (j + 1)).hc.next (s p).hb.next)) (evalT (s (j + 1)).ts t) (a.tmps.getD t Go.undef)
  rest : ∀ t, (∀ j oj, Ls j → L[j]? = some oj → oj.dst ≠ some t) → ConV (ρ.cut (s p).hb.next) (evalT ts t) (a.tmps.getD t Go.undef)

theorem put_get (a : Act) (d : Option Tmp) (val : Value) (t : Nat) : (a.put d val).tmps.getD t Go.undef = if d = some t ∧ t < a.tmps.size then val else a.tmps.getD t Go.undef := by
  cases d with
  | none => simp [Act.put]
  | some d =>
    have e : (a.put (some d) val).tmps = a.tmps.setIfInBounds d val := rfl
    rw [e, Array.getD_eq_getD_getElem?, Array.getD_eq_getD_getElem?]
    by_cases hd : d = t
    · subst hd
      by_cases hlt : d < a.tmps.size
      · rw [Array.getElem?_setIfInBounds_self_of_lt hlt, if_pos ⟨rfl, hlt⟩]; rfl
      · rw [if_neg (fun hh => hlt hh.2), Array.getElem?_eq_none (by rw [Array.size_setIfInBounds]; exact Nat.le_of_not_lt hlt), Array.getElem?_eq_none (Nat.le_of_not_lt hlt)]
    · rw [Array.getElem?_setIfInBounds_ne hd, if_neg (fun hh => hd (by injection hh.1))]
theorem put_size (a : Act) (d : Option Tmp) (val : Value) : (a.put d val).tmps.size = a.tmps.size := by
  cases d with
  | none => rfl
  | some d => show (a.tmps.setIfInBounds d val).size = _; simp
theorem putT_lt {ts ts' : Tmps} {t : Tmp} (e : putT n ts (some t) v = some ts') : t < n := by
  unfold putT at e
  simp only at e
  cases hb : Nat.blt t n with
  | false => rw [hb] at e; cases e
  | true => exact blt_lt hb

theorem Sl.put (S : Sl L n ts s Ls p ρ a) (X : Checks K L rds efs) (ho : L[i]? = some o) (hni : ¬ Ls i) (hle : Ren.le ρ ρ') (hp : (s p).hb.next ≤ (s p').hb.next) (hput : putT n (s i).ts o.dst v = some (s (i + 1)).ts) (hcon : ConV (ρ'.cut (max (s (i + 1)).hc.next (s p').hb.next)) v val) :
    Sl L n ts s (fun j => Ls j ∨ j = i) p' ρ' (a.put o.dst val) := by
  refine ⟨by rw [put_size]; exact S.size, fun j oj t hj hoj hd => ?_, fun t hno => ?_⟩
  · rcases hj with hj | rfl
    · have hne : ¬ (o.dst = some t ∧ t < a.tmps.size) := fun ⟨hdo, _⟩ => by
        have hji : j ≠ i := fun e => hni (e ▸ hj)
        by_cases hlt : j < i
        · exact slots_apart (X.slots j i oj o hlt hoj ho) hd hdo
        · exact slots_apart (X.slots i j o oj (by omega) ho hoj) hdo hd
      rw [put_get, if_neg hne]
      exact (S.done j oj t hj hoj hd).mono (Ren.cut_mono (by omega) hle)
    · rw [ho] at hoj
      cases hoj
      have hlt : t < a.tmps.size := by rw [S.size]; rw [hd] at hput; exact putT_lt hput
      rw [put_get, if_pos ⟨hd, hlt⟩, putT_eval hput, if_pos hd]
      exact hcon
  · have hne : ¬ (o.dst = some t ∧ t < a.tmps.size) := fun ⟨hdo, _⟩ => hno i o (.inr rfl) ho hdo
    rw [put_get, if_neg hne]
    exact (S.rest t (fun j oj hj => hno j oj (.inl hj))).mono (Ren.cut_mono hp hle)

/-- What an operation looks at. -/
theorem Sl.rel (S : Sl L n ts s Ls p ρ a) (F : Front L Ls p) (X : Checks K L rds efs) (C : Canon K E L n ts h s) (R : Rdy L Ls i o) {k : Nat} (h1 : (s i).hc.next ≤ k) (h2 : (s p).hb.next ≤ k) : TRel (ρ.cut k) n (cutT (s i).ts (looks L o)) (Act.only a (looks L o)).tmps := by
  have hlt := lt_of_getElem? R.is
  refine only_rel S.size (fun t ht => ?_)
  rcases R.slot F X C ht with ⟨j, oj, hj, hji, hoj, hd, he⟩ | ⟨hno, he⟩
  · rw [he]
    have := C.ups (i := j + 1) (j := i) (by omega) (by omega)
    exact (S.done j oj t hj hoj hd).mono (Ren.cut_mono (by omega) (Ren.le.refl _))
  · rw [he]
    exact (S.rest t hno).mono (Ren.cut_mono h2 (Ren.le.refl _))

/-- A state on the way. -/
structure St (K : Cfg) (L : List Oper) (n : Nat) (ts : Tmps) (h : H) (s : Nat → Dr) (ρ0 : Ren) (w0 : World) (a0 : Act) (Ls : Nat → Prop) (p : Nat) (ρ : Ren) (A : Nat → Option (O × Nat)) (a : Act) (w : World) : Prop where
  front : Front L Ls p
  mm : Mm K ρ0 h w0 ρ A w
  sl : Sl L n ts s Ls p ρ a
  defers : a.defers = a0.defers
  dom : ∀ x l, ρ x = some l → x < (s p).hb.next ∨ ∃ j, p ≤ j ∧ Ls j ∧ (s (j + 1)).hc.next = (s j).hc.next + 1 ∧ x = (s j).hc.next
  a1 : ∀ x o b, A x = some (o, b) → (b ≤ (s p).hb.next ∧ (s p).hb.get x = some o) ∨ ∃ j, p ≤ j ∧ Ls j ∧ (s (j + 1)).hc = (s j).hc.new o ∧ x = (s j).hc.next ∧ b = x + 1
  a2 : ∀ x o, (s p).hb.get x = some o → ∃ b, b ≤ (s p).hb.next ∧ A x = some (o, b)
  a3 : ∀ j o, p ≤ j → Ls j → AllocAt L j → (s (j + 1)).hc = (s j).hc.new o → A (s j).hc.next = some (o, (s j).hc.next + 1)

theorem new_next {h h' : H} {o : O} (e : h' = h.new o) : h'.next = h.next + 1 := by rw [e]; rfl

theorem Front.hp (F : Front L Ls p) (C : Canon K E L n ts h s) : (s p).hb = (s p).hc := by
  rcases F.at' with rfl | ⟨e, rfl, he, _⟩
  · rw [C.start]
  · exact C.hb_eff he
theorem Front.base (F : Front L Ls p) (C : Canon K E L n ts h s) : h.next ≤ (s p).hb.next := by
  rw [F.hp C]
  have := C.ups (i := 0) (j := p) (Nat.zero_le _) F.le
  rw [C.start] at this
  exact this

section
variable (S : St K L n ts h s ρ0 w0 a0 Ls p ρ A a w) (X : Checks K L rds efs) (C : Canon K E L n ts h s)
include S X C

/-- Memory of the frontier's segment. -/
theorem St.seg {k : Nat} (hpk : p ≤ k) (hk : k ≤ L.length) (hn : ∀ j, p ≤ j → j < k → ¬ EffAt L j) (hall : ∀ j, p ≤ j → j < k → AllocAt L j → Ls j) : ∀ x o, (s k).hc.get x = some o → ∃ b, b ≤ (s k).hc.next ∧ A x = some (o, b) := by
  have _ := X
  intro x o hx
  have hup : (s p).hb.next ≤ (s k).hc.next := by rw [S.front.hp C]; exact C.ups hpk hk
  rcases C.hc_in (S.front.hp C) hpk hk hn hx with h1 | ⟨j, h1, h2, h3, h4, rfl⟩
  · obtain ⟨b, hb, hA⟩ := S.a2 x o h1
    exact ⟨b, by omega, hA⟩
  · have := C.ups (i := j + 1) (j := k) (by omega) hk
    have e := new_next h4
    exact ⟨_, by omega, S.a3 j o h1 (hall j h1 h2 h3) h3 h4⟩

/-- Where the names of allocs are. -/
theorem St.name_lt {j k : Nat} (hj : (s (j + 1)).hc.next = (s j).hc.next + 1) (hjk : j < k) (hk : k ≤ L.length) : (s j).hc.next < (s k).hc.next := by
  have _ := S
  have _ := X
  have := C.ups (i := j + 1) (j := k) (by omega) hk
  omega

variable (R : Rdy L Ls i o)
include R

theorem St.gap (hpi : p ≤ i) {x : Nat} {l : Loc} (hx : ρ x = some l) (hk : (s i).hc.next ≤ x) : (s (i + 1)).hc.next ≤ x := by
  have hlt := lt_of_getElem? R.is
  have hup : (s p).hb.next ≤ (s i).hc.next := by rw [S.front.hp C]; exact C.ups hpi (by omega)
  rcases S.dom x l hx with h1 | ⟨j, h1, h2, h3, rfl⟩
  · omega
  · have hjl := S.front.lt j h2
    have hne : j ≠ i := fun e => R.not (e ▸ h2)
    by_cases hji : j < i
    · have := S.name_lt X C h3 hji (by omega); omega
    · exact C.ups (by omega) (by omega)

/-- A step that changes no memory. -/
theorem St.same (hk : kd o.op ≠ .eff) (hc : (s (i + 1)).hc = (s i).hc) (hput : putT n (s i).ts o.dst v = some (s (i + 1)).ts) (hcon : ConV (ρ.cut (max (s i).hc.next (s p).hb.next)) v val) :
    St K L n ts h s ρ0 w0 a0 (fun j => Ls j ∨ j = i) p ρ A (a.put o.dst val) w := by
  have _ := C
  have hlt := lt_of_getElem? R.is
  refine ⟨⟨fun j hj => ?_, fun j oj hj hoj k hw => ?_, ?_, fun e he hee hl => ?_⟩, S.mm, S.sl.put X R.is R.not (Ren.le.refl _) (Nat.le_refl _) hput (by rw [hc]; exact hcon), (put_defers _ _ _).trans S.defers, fun x l hx => ?_, fun x ob b hx => ?_, S.a2, fun j ob h1 h2 h3 h4 => ?_⟩
  · rcases hj with hj | rfl
    · exact S.front.lt j hj
    · exact hlt
  · rcases hj with hj | rfl
    · exact .inl (S.front.closed j oj hj hoj k hw)
    · rw [R.is] at hoj
      cases hoj
      exact .inl (R.all k hw)
  · rcases S.front.at' with e | ⟨e, h1, h2, h3⟩
    · exact .inl e
    · exact .inr ⟨e, h1, h2, .inl h3⟩
  · rcases hl with hl | rfl
    · exact S.front.behind e he hee hl
    · obtain ⟨o', ho', hk'⟩ := hee
      rw [R.is] at ho'
      cases ho'
      exact hk hk'
  · rcases S.dom x l hx with h1 | ⟨j, h1, h2, h3⟩
    · exact .inl h1
    · exact .inr ⟨j, h1, .inl h2, h3⟩
  · rcases S.a1 x ob b hx with h1 | ⟨j, h1, h2, h3⟩
    · exact .inl h1
    · exact .inr ⟨j, h1, .inl h2, h3⟩
  · rcases h2 with h2 | rfl
    · exact S.a3 j ob h1 h2 h3 h4
    · have e1 := new_next h4
      rw [hc] at e1
      omega

/-- An effect. -/
theorem St.eff (hk : kd o.op = .eff) (aft : Aft K (ρ.cut (s i).hc.next) (s i).hc w ρ' (s (i + 1)).hc w') (hput : putT n (s i).ts o.dst v = some (s (i + 1)).ts) (hcon : ConV ρ' v val) :
    St K L n ts h s ρ0 w0 a0 (fun j => Ls j ∨ j = i) (i + 1) (ρ.then ρ' (s (i + 1)).hc.next) (thenA A (s i).hc (s (i + 1)).hc) (a.put o.dst val) w' := by
  have hlt := lt_of_getElem? R.is
  have hpi := R.eff_le S.front X hk
  have hno := R.eff_first S.front X hk
  have hup : (s p).hb.next ≤ (s i).hc.next := by rw [S.front.hp C]; exact C.ups hpi (by omega)
  have hbase := S.front.base C
  have hup1 := C.up hlt
  have hb1 : (s (i + 1)).hb = (s (i + 1)).hc := C.hb_eff ⟨o, R.is, hk⟩
  have hM := S.seg X C hpi (by omega) hno (fun j _ hji ha => R.eff_all S.front X hk hji (.inr ha))
  have gap : ∀ x l, ρ x = some l → (s i).hc.next ≤ x → (s (i + 1)).hc.next ≤ x := fun x l hx hxk => S.gap X C R hpi hx hxk
  have hle := then_le aft gap
  have hcut := then_cut aft
  have hdom := aft.dom (Ren.cut_dom ρ (s i).hc.next)
  have later : ∀ j, p ≤ j → Ls j → (s (j + 1)).hc.next = (s j).hc.next + 1 → (s (i + 1)).hc.next ≤ (s j).hc.next ∨ j < i := fun j h1 h2 h3 => by
    have hne : j ≠ i := fun e => R.not (e ▸ h2)
    have hjl := S.front.lt j h2
    by_cases hji : j < i
    · exact .inr hji
    · exact .inl (C.ups (by omega) (by omega))
  refine ⟨⟨fun j hj => ?_, fun j oj hj hoj k hw => ?_, .inr ⟨i, rfl, ⟨o, R.is, hk⟩, .inr rfl⟩, fun e he hee hl => ?_⟩, S.mm.step aft gap (by omega) hM, S.sl.put X R.is R.not hle (by rw [hb1]; omega) hput ?_, (put_defers _ _ _).trans S.defers, fun x l hx => ?_, fun x ob b hx => ?_, fun x ob hx => ?_, fun j ob h1 h2 h3 h4 => ?_⟩
  · rcases hj with hj | rfl
    · exact S.front.lt j hj
    · exact hlt
  · rcases hj with hj | rfl
    · exact .inl (S.front.closed j oj hj hoj k hw)
    · rw [R.is] at hoj
      cases hoj
      exact .inl (R.all k hw)
  · rcases hl with hl | rfl
    · exact S.front.behind e (by omega) hee hl
    · omega
  · rw [← hcut] at hcon
    exact hcon.mono (Ren.cut_mono (by omega) (Ren.le.refl _))
  · by_cases hxl : x < (s (i + 1)).hc.next
    · rw [hb1]; exact .inl hxl
    · unfold Ren.then at hx
      rw [if_neg hxl] at hx
      rcases S.dom x l hx with h1 | ⟨j, h1, h2, h3, rfl⟩
      · omega
      · rcases later j h1 h2 h3 with h4 | h4
        · have hne : j ≠ i := fun e => R.not (e ▸ h2)
          by_cases hji : j < i
          · have := S.name_lt X C h3 hji (by omega); omega
          · exact .inr ⟨j, by omega, .inl h2, h3, rfl⟩
        · have := S.name_lt X C h3 h4 (by omega); omega
  · unfold thenA at hx
    split at hx
    · rename_i o' ho'
      cases hx
      rw [hb1]
      exact .inl ⟨Nat.le_refl _, ho'⟩
    · split at hx
      · cases hx
      · rename_i hn' hn
        rcases S.a1 x ob b hx with ⟨h1, h2⟩ | ⟨j, h1, h2, h3, rfl, h5⟩
        · exact absurd hn (C.hc_keep hpi (by omega) hno (by rw [← S.front.hp C, h2]; simp))
        · have hne : j ≠ i := fun e => R.not (e ▸ h2)
          by_cases hji : j < i
          · refine absurd hn (C.hc_keep (p := j + 1) (by omega) (by omega) (fun k h6 h7 => hno k (by omega) h7) ?_)
            rw [h3, H.get_new, if_pos rfl]
            simp
          · exact .inr ⟨j, by omega, .inl h2, h3, rfl, h5⟩
  · rw [hb1] at hx
    refine ⟨(s (i + 1)).hc.next, by rw [hb1]; exact Nat.le_refl _, ?_⟩
    unfold thenA
    rw [hx]
  · have h2' : Ls j := by
      rcases h2 with h2 | rfl
      · exact h2
      · omega
    have hA := S.a3 j ob (by omega) h2' h3 h4
    have hjl := S.front.lt j h2'
    have hge : (s (i + 1)).hc.next ≤ (s j).hc.next := C.ups h1 (by omega)
    have e1 : (s (i + 1)).hc.get (s j).hc.next = none := by
      cases e : (s (i + 1)).hc.get (s j).hc.next with
      | none => rfl
      | some o' =>
        obtain ⟨l, hl, _⟩ := aft.rep.obj _ _ e
        have := dom_lt hdom hl
        omega
    have e2 : (s i).hc.get (s j).hc.next = none := by
      cases e : (s i).hc.get (s j).hc.next with
      | none => rfl
      | some o' =>
        obtain ⟨b, hb, hA'⟩ := hM _ _ e
        have := (S.mm.obj _ _ _ hA').1
        omega
    unfold thenA
    rw [e1, e2]
    exact hA

/-- An alloc. -/
theorem St.alloc (hk : kd o.op = .alloc) {ob : O} (hc : (s (i + 1)).hc = (s i).hc.new ob) (aft : Aft K (ρ.cut (s i).hc.next) ⟨Tree.nil, (s i).hc.next⟩ w ρ' ((⟨Tree.nil, (s i).hc.next⟩ : H).new ob) w') (hput : putT n (s i).ts o.dst v = some (s (i + 1)).ts) (hcon : ConV ρ' v val) :
    St K L n ts h s ρ0 w0 a0 (fun j => Ls j ∨ j = i) p (ρ.then ρ' (s (i + 1)).hc.next) (thenA A ⟨Tree.nil, (s i).hc.next⟩ ((⟨Tree.nil, (s i).hc.next⟩ : H).new ob)) (a.put o.dst val) w' := by
  have hlt := lt_of_getElem? R.is
  have hpi := R.alloc_le S.front X hk
  have hup : (s p).hb.next ≤ (s i).hc.next := by rw [S.front.hp C]; exact C.ups hpi (by omega)
  have hbase := S.front.base C
  have hnx := new_next hc
  have hnx' : (s (i + 1)).hc.next = ((⟨Tree.nil, (s i).hc.next⟩ : H).new ob).next := hnx
  have hnil : ∀ x, (⟨Tree.nil, (s i).hc.next⟩ : H).get x = none := fun x => Tree.get_nil x
  have hnew : ∀ x, ((⟨Tree.nil, (s i).hc.next⟩ : H).new ob).get x = if x = (s i).hc.next then some ob else none := fun x => by
    rw [H.get_new, hnil]
  have gap : ∀ x l, ρ x = some l → (⟨Tree.nil, (s i).hc.next⟩ : H).next ≤ x → ((⟨Tree.nil, (s i).hc.next⟩ : H).new ob).next ≤ x := fun x l hx hxk => by
    rw [← hnx']; exact S.gap X C R hpi hx hxk
  have hle := then_le aft gap
  have hcut := then_cut (M := ⟨Tree.nil, (s i).hc.next⟩) aft
  have hmm := S.mm.step aft gap (by show h.next ≤ (s i).hc.next; omega) (fun x o' hx => by rw [hnil] at hx; cases hx)
  rw [← hnx'] at hle hcut hmm
  have hA : ∀ x, x ≠ (s i).hc.next → thenA A ⟨Tree.nil, (s i).hc.next⟩ ((⟨Tree.nil, (s i).hc.next⟩ : H).new ob) x = A x := fun x hx => by
    unfold thenA
    rw [hnew, if_neg hx, hnil]
  have hA0 : thenA A ⟨Tree.nil, (s i).hc.next⟩ ((⟨Tree.nil, (s i).hc.next⟩ : H).new ob) (s i).hc.next = some (ob, (s i).hc.next + 1) := by
    unfold thenA
    rw [hnew, if_pos rfl]
    rfl
  refine ⟨⟨fun j hj => ?_, fun j oj hj hoj k hw => ?_, ?_, fun e he hee hl => ?_⟩, hmm, S.sl.put X R.is R.not hle (Nat.le_refl _) hput ?_, (put_defers _ _ _).trans S.defers, fun x l hx => ?_, fun x ob' b hx => ?_, fun x ob' hx => ?_, fun j ob' h1 h2 h3 h4 => ?_⟩
  · rcases hj with hj | rfl
    · exact S.front.lt j hj
    · exact hlt
  · rcases hj with hj | rfl
    · exact .inl (S.front.closed j oj hj hoj k hw)
    · rw [R.is] at hoj
      cases hoj
      exact .inl (R.all k hw)
  · rcases S.front.at' with e | ⟨e, h1, h2, h3⟩
    · exact .inl e
    · exact .inr ⟨e, h1, h2, .inl h3⟩
  · rcases hl with hl | rfl
    · exact S.front.behind e he hee hl
    · obtain ⟨o', ho', hk'⟩ := hee
      rw [R.is] at ho'
      cases ho'
      rw [hk] at hk'
      cases hk'
  · rw [← hcut] at hcon
    exact hcon.mono (Ren.cut_mono (by omega) (Ren.le.refl _))
  · by_cases hxk : x = (s i).hc.next
    · exact .inr ⟨i, hpi, .inr rfl, hnx, hxk⟩
    · have hx' : ρ x = some l := by
        by_cases hxl : x < (s i).hc.next
        · rw [← then_lt (M := ⟨Tree.nil, (s i).hc.next⟩) aft hxl, ← hnx']; exact hx
        · unfold Ren.then at hx
          rw [if_neg (by omega)] at hx
          exact hx
      rcases S.dom x l hx' with h1 | ⟨j, h1, h2, h3⟩
      · exact .inl h1
      · exact .inr ⟨j, h1, .inl h2, h3⟩
  · by_cases hxk : x = (s i).hc.next
    · subst hxk
      rw [hA0] at hx
      cases hx
      exact .inr ⟨i, hpi, .inr rfl, hc, rfl, rfl⟩
    · rw [hA x hxk] at hx
      rcases S.a1 x ob' b hx with h1 | ⟨j, h1, h2, h3⟩
      · exact .inl h1
      · exact .inr ⟨j, h1, .inl h2, h3⟩
  · obtain ⟨b, hb, hAx⟩ := S.a2 x ob' hx
    have := (S.mm.obj _ _ _ hAx).1
    exact ⟨b, hb, by rw [hA x (by omega)]; exact hAx⟩
  · rcases h2 with h2 | rfl
    · have hne : j ≠ i := fun e => R.not (e ▸ h2)
      have hjl := S.front.lt j h2
      have e1 := new_next h4
      have hne' : (s j).hc.next ≠ (s i).hc.next := by
        by_cases hji : j < i
        · have := S.name_lt X C e1 hji (by omega); omega
        · have := C.ups (i := i + 1) (j := j) (by omega) (by omega); omega
      rw [hA _ hne']
      exact S.a3 j ob' h1 h2 h3 h4
    · rw [hA0]
      have : ob' = ob := by
        have e1 : ((s j).hc.new ob').get (s j).hc.next = some ob' := by rw [H.get_new, if_pos rfl]
        have e2 : ((s j).hc.new ob).get (s j).hc.next = some ob := by rw [H.get_new, if_pos rfl]
        rw [← h4, hc, e2] at e1
        cases e1
        rfl
      rw [this]

end
end
end Go.Ev
