/- Drawn regions: slots, reads, and what the checks say. -/
import Derived.Test.YtkpiafihfmafkaaGreatDoorEvDraw2
namespace Go.Ev
open Go.RowKit

section
variable {K : Cfg} {E : Task → Option Out} {L : List Oper} {n : Nat} {ts : Tmps} {h : H} {s : Nat → Dr}

theorem putT_eval {ts ts' : Tmps} {d : Option Tmp} {v : V} (e : putT n ts d v = some ts') (t : Nat) : evalT ts' t = if d = some t then v else evalT ts t := by
  unfold putT at e
  cases d with
  | none => cases e; simp
  | some d =>
    simp only at e
    cases hb : Nat.blt d n with
    | false => rw [hb] at e; cases e
    | true =>
      rw [hb] at e
      cases e
      rw [evalT_set]
      by_cases hd : t = d
      · subst hd; simp
      · have : ¬ (some d = some t) := fun h => hd (by injection h with h; exact h.symm)
        simp [hd, this]

section
variable (C : Canon K E L n ts h s)
include C

/-- Who wrote a slot. -/
theorem Canon.slot {i : Nat} (hi : i ≤ L.length) (t : Nat) : (∃ j oj, j < i ∧ L[j]? = some oj ∧ oj.dst = some t ∧ evalT (s i).ts t = evalT (s (j + 1)).ts t) ∨ ((∀ j oj, j < i → L[j]? = some oj → oj.dst ≠ some t) ∧ evalT (s i).ts t = evalT ts t) := by
  induction i with
  | zero => exact .inr ⟨fun j _ hj => by omega, by rw [C.start]⟩
  | succ i ih =>
    obtain ⟨o, ho⟩ := getElem?_lt (L := L) (i := i) (by omega)
    obtain ⟨v, hp, _⟩ := C.one i o ho
    have he := putT_eval hp t
    by_cases hd : o.dst = some t
    · exact .inl ⟨i, o, by omega, ho, hd, rfl⟩
    · rw [if_neg hd] at he
      rcases ih (by omega) with ⟨j, oj, a, b, c, d⟩ | ⟨a, b⟩
      · exact .inl ⟨j, oj, by omega, b, c, by rw [he, d]⟩
      · refine .inr ⟨fun j oj hj hoj => ?_, by rw [he, b]⟩
        by_cases e : j = i
        · subst e
          rw [ho] at hoj
          cases hoj
          exact hd
        · exact a j oj (by omega) hoj

theorem Canon.rds_mono {i j : Nat} (hij : i ≤ j) (hj : j ≤ L.length) {r : Rd} (hr : r ∈ (s i).rds) : r ∈ (s j).rds := by
  induction j with
  | zero => have : i = 0 := by omega
            subst this; exact hr
  | succ j ih =>
    by_cases e : i = j + 1
    · subst e; exact hr
    · have h0 := ih (by omega) (by omega)
      obtain ⟨o, ho⟩ := getElem?_lt (L := L) (i := j) (by omega)
      obtain ⟨v, _, d⟩ := C.one j o ho
      cases d with
      | skip _ _ _ _ _ hr => rw [hr]; exact h0
      | skipEff _ _ _ _ _ hr => rw [hr]; exact h0
      | pure _ _ _ _ _ _ hr => rw [hr]; exact h0
      | read _ _ _ _ _ _ hr => rw [hr]; exact List.mem_cons_of_mem _ h0
      | alloc _ _ _ _ hr => rw [hr]; exact h0
      | eff _ _ _ _ _ hr => rw [hr]; exact h0
theorem Canon.efs_mono {i j : Nat} (hij : i ≤ j) (hj : j ≤ L.length) {r : Ef} (hr : r ∈ (s i).efs) : r ∈ (s j).efs := by
  induction j with
  | zero => have : i = 0 := by omega
            subst this; exact hr
  | succ j ih =>
    by_cases e : i = j + 1
    · subst e; exact hr
    · have h0 := ih (by omega) (by omega)
      obtain ⟨o, ho⟩ := getElem?_lt (L := L) (i := j) (by omega)
      obtain ⟨v, _, d⟩ := C.one j o ho
      cases d with
      | skip _ _ _ _ _ _ he => rw [he]; exact h0
      | skipEff _ _ _ _ _ _ he => rw [he]; exact List.mem_cons_of_mem _ h0
      | pure _ _ _ _ _ _ _ he => rw [he]; exact h0
      | read _ _ _ _ _ _ _ he => rw [he]; exact h0
      | alloc _ _ _ _ _ he => rw [he]; exact h0
      | eff _ _ _ _ _ _ he => rw [he]; exact List.mem_cons_of_mem _ h0
theorem Canon.ef_mem {e : Nat} (he : EffAt L e) : (⟨e, (s e).hb, (s (e + 1)).hb⟩ : Ef) ∈ (s L.length).efs := by
  obtain ⟨o, ho, hk⟩ := he
  have hlt := lt_of_getElem? ho
  refine C.efs_mono (i := e + 1) (by omega) (Nat.le_refl _) ?_
  obtain ⟨v, _, d⟩ := C.one e o ho
  cases d with
  | skip _ hk' => exact absurd hk hk'
  | skipEff _ _ _ _ _ _ he => rw [he]; exact List.mem_cons_self
  | pure _ hk' => rw [hk] at hk'; cases hk'
  | read _ hk' => rw [hk] at hk'; cases hk'
  | alloc _ hk' => rw [hk] at hk'; cases hk'
  | eff _ _ _ _ _ _ he => rw [he]; exact List.mem_cons_self

end

theorem stables_all {ops : List Oper} {rds : List Rd} : ∀ {efs : List Ef}, stables K ops rds efs = true → ∀ e ∈ efs, ∀ r ∈ rds, stable K ops e r = true
  | [], _, e, he, _, _ => by simp at he
  | e0 :: l, hs, e, he, r, hr => by
    simp only [stables, Bool.and_eq_true] at hs
    rcases List.mem_cons.1 he with rfl | he
    · exact List.all_eq_true.1 hs.1 r hr
    · exact stables_all hs.2 e he r hr

theorem waits_iff {o : Oper} {j : Nat} : waits o j = true ↔ ∃ e ∈ o.after, Region.binds .any e = true ∧ e.on = j := by
  unfold waits
  rw [List.any_eq_true]
  constructor
  · rintro ⟨e, he, hb⟩
    rw [Bool.and_eq_true] at hb
    exact ⟨e, by simpa using he, hb.1, Nat.eq_of_beq_eq_true hb.2⟩
  · rintro ⟨e, he, hb, hj⟩
    exact ⟨e, by simpa using he, by rw [Bool.and_eq_true]; exact ⟨hb, by rw [hj]; exact Nat.beq_refl _⟩⟩

theorem edges_back : ∀ {l : List Oper} {k : Nat}, edgesOk k l = true → ∀ i o, l[i]? = some o → ∀ j, waits o j = true → j < k + i
  | [], _, _, i, o, ho, _, _ => by simp at ho
  | o0 :: l, k, hs, i, o, ho, j, hw => by
    simp only [edgesOk, Bool.and_eq_true] at hs
    cases i with
    | zero =>
      simp at ho
      subst ho
      obtain ⟨e, he, hb, rfl⟩ := waits_iff.1 hw
      have := List.all_eq_true.1 hs.1 e (by simpa using he)
      rw [hb] at this
      simp only [Bool.not_true, Bool.false_or] at this
      have := blt_lt this
      omega
    | succ i =>
      have := edges_back hs.2 i o (by simpa using ho) j hw
      omega

theorem slots1 {ops : List Oper} {oj : Oper} : ∀ {l : List Oper} {k : Nat}, slotsOk1 ops oj k l = true → ∀ i oi, l[i]? = some oi → slotsOk2 ops (k + i) oi oj = true
  | [], _, _, i, oi, ho => by simp at ho
  | o0 :: l, k, hs, i, oi, ho => by
    simp only [slotsOk1, Bool.and_eq_true] at hs
    cases i with
    | zero => simp at ho; subst ho; exact hs.1
    | succ i =>
      have := slots1 hs.2 i oi (by simpa using ho)
      rw [Nat.add_right_comm] at this
      exact this
theorem slots_all {ops : List Oper} : ∀ {l : List Oper} {k : Nat}, slotsOk ops k l = true → ∀ j oj, l[j]? = some oj → ∀ i oi, i < k + j → ops[i]? = some oi → slotsOk2 ops i oi oj = true
  | [], _, _, j, oj, hj, _, _, _, _ => by simp at hj
  | o0 :: l, k, hs, j, oj, hj, i, oi, hi, ho => by
    simp only [slotsOk, Bool.and_eq_true] at hs
    cases j with
    | zero =>
      simp at hj
      subst hj
      have := slots1 hs.1 i oi (by rw [List.getElem?_take, if_pos (by omega)]; exact ho)
      simpa using this
    | succ j => exact slots_all hs.2 j oj (by simpa using hj) i oi (by omega) ho

theorem slots2 {ops : List Oper} {i : Nat} {oi oj : Oper} (hs : slotsOk2 ops i oi oj = true) {t : Tmp} : (oi.dst = some t → t ∈ looks ops oj → waits oj i = true) ∧ (oj.dst = some t → t ∈ looks ops oi → waits oj i = true) := by
  unfold slotsOk2 at hs
  rw [Bool.and_eq_true, Bool.or_eq_true, Bool.and_eq_true] at hs
  rcases hs.2 with hw | ⟨h1, h2⟩
  · exact ⟨fun _ _ => hw, fun _ _ => hw⟩
  · refine ⟨fun hd hl => ?_, fun hd hl => ?_⟩
    · rw [hd] at h1
      simp at h1
      exact absurd hl h1
    · rw [hd] at h2
      simp at h2
      exact absurd hl h2

/-- Each effect waits for the one before it and for the allocs since. -/
theorem chain_gen : ∀ {l : List Oper} {i : Nat} {e : Option Nat} {al : List Nat}, chainOk i e al l = true → (∀ j o, l[j]? = some o → L[i + j]? = some o) →
    (∀ j, j < i → EffAt L j → ∃ k, e = some k ∧ j ≤ k ∧ k < i ∧ EffAt L k) → (∀ j, j < i → AllocAt L j → j ∈ al ∨ ∃ k, e = some k ∧ j < k ∧ k < i ∧ EffAt L k) →
    ∀ x ox, i ≤ x → L[x]? = some ox → x < i + l.length → kd ox.op = .eff → ∀ j, j < x → EffAt L j ∨ AllocAt L j → waits ox j = true ∨ ∃ k, j < k ∧ k < x ∧ EffAt L k ∧ waits ox k = true
  | [], i, e, al, _, _, _, _, x, ox, hx, _, hlt, _, _, _, _ => by simp at hlt; omega
  | o :: l, i, e, al, hc, hL, h1, h2, x, ox, hx, hox, hlt, hk, j, hj, hea => by
    have hoi : L[i]? = some o := by have := hL 0 o rfl; simpa using this
    have hL' : ∀ j o', l[j]? = some o' → L[i + 1 + j]? = some o' := fun j o' hj => by
      have := hL (j + 1) o' (by simpa using hj)
      rw [← this]
      congr 1
      omega
    unfold chainOk at hc
    by_cases hxi : x = i
    · subst hxi
      rw [hoi] at hox
      cases hox
      rw [hk] at hc
      simp only [Bool.and_eq_true] at hc
      rcases hea with he | ha
      · obtain ⟨k, rfl, hjk, hkx, hek⟩ := h1 j hj he
        have hw : waits o k = true := hc.1.1
        by_cases ejk : j = k
        · subst ejk; exact .inl hw
        · exact .inr ⟨k, by omega, hkx, hek, hw⟩
      · rcases h2 j hj ha with hm | ⟨k, rfl, hjk, hkx, hek⟩
        · exact .inl (List.all_eq_true.1 hc.1.2 j hm)
        · exact .inr ⟨k, hjk, hkx, hek, hc.1.1⟩
    · have notI : ∀ {P : Prop}, EffAt L i → kd o.op ≠ .eff → P := fun ⟨o', ho', hk'⟩ hne => by
        rw [hoi] at ho'
        cases ho'
        exact absurd hk' hne
      have notA : ∀ {P : Prop}, AllocAt L i → kd o.op ≠ .alloc → P := fun ⟨o', ho', hk'⟩ hne => by
        rw [hoi] at ho'
        cases ho'
        exact absurd hk' hne
      have h1' : ∀ j, j < i + 1 → EffAt L j → kd o.op ≠ .eff → ∃ k, e = some k ∧ j ≤ k ∧ k < i + 1 ∧ EffAt L k := fun j hj he hne => by
        by_cases eji : j = i
        · subst eji; exact notI he hne
        · obtain ⟨k, a, b, c, d⟩ := h1 j (by omega) he
          exact ⟨k, a, b, by omega, d⟩
      cases hko : kd o.op with
      | eff =>
        rw [hko] at hc
        simp only [Bool.and_eq_true] at hc
        refine chain_gen hc.2 hL' (fun j hj he => ⟨i, rfl, by omega, by omega, ⟨o, hoi, hko⟩⟩) (fun j hj ha => ?_) x ox (by omega) hox (by simp at hlt; omega) hk j hj hea
        by_cases eji : j = i
        · subst eji; exact notA ha (by rw [hko]; intro e; cases e)
        · exact .inr ⟨i, rfl, by omega, by omega, ⟨o, hoi, hko⟩⟩
      | alloc =>
        rw [hko] at hc
        simp only at hc
        refine chain_gen hc hL' (fun j hj he => h1' j hj he (by rw [hko]; intro e; cases e)) (fun j hj ha => ?_) x ox (by omega) hox (by simp at hlt; omega) hk j hj hea
        by_cases eji : j = i
        · subst eji; exact .inl List.mem_cons_self
        · rcases h2 j (by omega) ha with hm | ⟨k, a, b, c, d⟩
          · exact .inl (List.mem_cons_of_mem _ hm)
          · exact .inr ⟨k, a, b, by omega, d⟩
      | pure =>
        rw [hko] at hc
        simp only at hc
        refine chain_gen hc hL' (fun j hj he => h1' j hj he (by rw [hko]; intro e; cases e)) (fun j hj ha => ?_) x ox (by omega) hox (by simp at hlt; omega) hk j hj hea
        by_cases eji : j = i
        · subst eji; exact notA ha (by rw [hko]; intro e; cases e)
        · rcases h2 j (by omega) ha with hm | ⟨k, a, b, c, d⟩
          · exact .inl hm
          · exact .inr ⟨k, a, b, by omega, d⟩
      | read =>
        rw [hko] at hc
        simp only at hc
        refine chain_gen hc hL' (fun j hj he => h1' j hj he (by rw [hko]; intro e; cases e)) (fun j hj ha => ?_) x ox (by omega) hox (by simp at hlt; omega) hk j hj hea
        by_cases eji : j = i
        · subst eji; exact notA ha (by rw [hko]; intro e; cases e)
        · rcases h2 j (by omega) ha with hm | ⟨k, a, b, c, d⟩
          · exact .inl hm
          · exact .inr ⟨k, a, b, by omega, d⟩

/-- The checks, as they are used. -/
structure Checks (K : Cfg) (L : List Oper) (rds : List Rd) (efs : List Ef) : Prop where
  back : ∀ i o, L[i]? = some o → ∀ j, waits o j = true → j < i
  slots : ∀ i j oi oj, i < j → L[i]? = some oi → L[j]? = some oj → slotsOk2 L i oi oj = true
  chain : ∀ x ox, L[x]? = some ox → kd ox.op = .eff → ∀ j, j < x → EffAt L j ∨ AllocAt L j → waits ox j = true ∨ ∃ k, j < k ∧ k < x ∧ EffAt L k ∧ waits ox k = true
  stable : ∀ e ∈ efs, ∀ r ∈ rds, stable K L e r = true

theorem evDraw_some {ts' : Tmps} {h' : H} (e : evDraw K E L n ts h = some (ts', h')) : ∃ s, Canon K E L n ts h s ∧ Checks K L (s L.length).rds (s L.length).efs ∧ ts' = (s L.length).ts ∧ h' = (s L.length).hc := by
  unfold evDraw at e
  cases hb : (edgesOk 0 L && slotsOk L 0 L && chainOk 0 none [] L) with
  | false => rw [hb] at e; cases e
  | true =>
    rw [hb, cond_true] at e
    rw [Bool.and_eq_true, Bool.and_eq_true] at hb
    cases hd : drAll K E L n 0 L ⟨ts, h, h, [], []⟩ with
    | none => rw [hd] at e; cases e
    | some sN =>
      rw [hd] at e
      have e' : (bif stables K L sN.rds sN.efs then some (sN.ts, sN.hc) else none) = some (ts', h') := e
      cases hs : stables K L sN.rds sN.efs with
      | false => rw [hs] at e'; cases e'
      | true =>
        rw [hs, cond_true] at e'
        cases e'
        obtain ⟨s, C, rfl⟩ := canon_of hd
        refine ⟨s, C, ⟨fun i o ho j hw => ?_, fun i j oi oj hij hi hj => ?_, fun x ox hx hk j hj hea => ?_, stables_all hs⟩, rfl, rfl⟩
        · have := edges_back hb.1.1 i o ho j hw; omega
        · exact slots_all hb.1.2 j oj hj i oi (by omega) hi
        · exact chain_gen hb.2 (fun j o hj => by simpa using hj) (fun j hj => by omega) (fun j hj => by omega) x ox (by omega) hx (by have := lt_of_getElem? hx; omega) hk j hj hea

end
end Go.Ev
