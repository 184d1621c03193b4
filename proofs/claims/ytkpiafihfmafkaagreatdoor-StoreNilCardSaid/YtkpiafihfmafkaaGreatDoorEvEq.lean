/- '==' of structs and arrays. -/
import Derived.Test.YtkpiafihfmafkaaGreatDoorEvNum
import Derived.Laws.StructEq
import Derived.ChangeKeysEq
namespace Go.Ev
open Go.RowKit

section
variable {K : Cfg} {P : Program} {ρ : Ren} {w : World}

theorem isAgg_run (F : Fits K P) {t : TypeId} {ti : TI} (ht : K.types.get t = some ti) (w : World) : (isAgg t).run P w = .ok ti.agg w := by
  rw [F.agg t ti ht]
  unfold isAgg
  rw [Sem.run_bind, run_underlying (F.und t ti ht) w]
  cases ti.desc <;> simp [TypeDesc.isRow]
theorem sizeOf_run (F : Fits K P) {t : TypeId} {ti : TI} (ht : K.types.get t = some ti) (w : World) : (sizeOf t).run P w = .ok ti.size w := by
  obtain ⟨i, hi, hs, _⟩ := F.info t ti ht
  simp [sizeOf, typeInfo, hi, hs]

theorem part_run (F : Fits K P) {t : TypeId} {ti : TI} (ht : K.types.get t = some ti) {l : List C} {xs : Array Value} (hl : All2 (Con ρ) l xs.toList) {off : Nat} {x : W} (h : partOf ti l off = some x) (w : World) :
    ∃ v, (part t xs off).run P w = .ok v w ∧ ConW ρ x v := by
  have ha := isAgg_run F ht w
  have hs := sizeOf_run F ht w
  unfold partOf at h
  cases hag : ti.agg with
  | true =>
    rw [hag] at h ha
    simp only [cond_true] at h
    cases hb : Nat.ble (off + ti.size) l.length with
    | false => rw [hb] at h; cases h
    | true =>
      rw [hb] at h
      simp only [cond_true, Option.some.injEq] at h
      subst h
      refine ⟨.agg (xs.extract off (off + ti.size)), by simp [part, ha, hs], _, rfl, ?_⟩
      rw [Array.toList_extract, List.extract_eq_take_drop]
      rw [show off + ti.size - off = ti.size by omega]
      exact (hl.drop off).take ti.size
  | false =>
    rw [hag] at h ha
    simp only [cond_false] at h
    unfold cW at h
    split at h
    · rename_i c hc
      cases h
      obtain ⟨b, hb, hcon⟩ := hl.get off c hc
      have hb' : xs[off]? = some b := by rw [← hb]; simp
      exact ⟨b, by simp [part, ha, hb'], hcon⟩
    · cases h

/-- arrays of ints -/
theorem eqInts_run {e : TypeId} {q : IntKind} (he : P.underlying e = some (.int q)) (d : Nat) {xs ys : Array Value} : ∀ (k : Nat) (a b : List C) (r : Bool), eqInts a b = some r → All2 (Con ρ) a (xs.toList.drop k) → All2 (Con ρ) b (ys.toList.drop k) →
    (Op.eqItems (d + 1) e 1 xs ys (List.range' k a.length)).run P w = .ok r w
  | k, [], [], r, h, _, _ => by simp [eqInts] at h; subst h; simp [Op.eqItems]
  | k, x :: a, y :: b, r, h, ha, hb => by
    cases x <;> cases y <;> simp only [eqInts, reduceCtorEq] at h
    rename_i k1 n1 k2 n2
    split at h
    · rename_i hk
      subst hk
      cases hxs : xs.toList.drop k with
      | nil => rw [hxs] at ha; exact ha.elim
      | cons u us =>
        cases hys : ys.toList.drop k with
        | nil => rw [hys] at hb; exact hb.elim
        | cons v vs =>
          rw [hxs] at ha
          rw [hys] at hb
          have hu : u = .int k1 n1 := ha.1
          have hv : v = .int k1 n2 := hb.1
          subst hu
          subst hv
          have gx : xs[k]? = some (.int k1 n1) := by
            have : (xs.toList.drop k)[0]? = some (.int k1 n1) := by rw [hxs]; rfl
            simpa using this
          have gy : ys[k]? = some (.int k1 n2) := by
            have : (ys.toList.drop k)[0]? = some (.int k1 n2) := by rw [hys]; rfl
            simpa using this
          have hag : (isAgg e).run P w = .ok false w := by
            unfold isAgg
            rw [Sem.run_bind, run_underlying he w]
            simp
          have p1 : (part e xs (k * 1)).run P w = .ok (.int k1 n1) w := by simp [part, hag, gx]
          have p2 : (part e ys (k * 1)).run P w = .ok (.int k1 n2) w := by simp [part, hag, gy]
          have p3 : (Op.equalIn (d + 1) e (.int k1 n1) (.int k1 n2)).run P w = .ok (n1 == n2) w := by
            rw [Op.equalIn]
            simp [run_underlying he w]
          have da : All2 (Con ρ) a (xs.toList.drop (k + 1)) := by
            have : xs.toList.drop (k + 1) = us := by rw [← List.drop_drop, hxs]; rfl
            rw [this]; exact ha.2
          have db : All2 (Con ρ) b (ys.toList.drop (k + 1)) := by
            have : ys.toList.drop (k + 1) = vs := by rw [← List.drop_drop, hys]; rfl
            rw [this]; exact hb.2
          rw [List.length_cons, List.range'_succ]
          simp only [Op.eqItems, Sem.run_bind, p1, p2, p3, Result.andThen_ok, Sem.run_ite]
          cases hn : (n1 == n2) with
          | false => rw [hn] at h; simp only [cond_false, Option.some.injEq] at h; subst h; simp
          | true =>
            rw [hn] at h
            simp only [cond_true] at h
            simp only [Bool.not_true, Bool.false_eq_true, if_false]
            exact eqInts_run he d (k + 1) a b r h da db
    · cases h
  | k, [], _ :: _, r, h, _, _ => by simp [eqInts] at h
  | k, x :: _, [], r, h, _, _ => by cases x <;> simp [eqInts] at h

/-- '==' at a type. -/
theorem eqT_run (F : Fits K P) : ∀ (d : Nat) (t : TypeId) (x y : W) (r : Bool), eqT K d t x y = some r → ∀ (a b : Value), ConW ρ x a → ConW ρ y b → ∀ D, d < D → (Op.equalIn D t a b).run P w = .ok r w
  | 0, _, _, _, _, h, _, _, _, _, _, _ => by simp [eqT] at h
  | d + 1, t, x, y, r, h, a, b, hx, hy, D, hD => by
    obtain ⟨D', rfl⟩ : ∃ D', D = D' + 1 := ⟨D - 1, by omega⟩
    rw [eqT] at h
    split at h
    · cases h
    · rename_i ti ht
      have hu := F.und t ti ht
      cases hp : ti.plain with
      | false => rw [hp] at h; simp at h
      | true =>
        rw [hp] at h
        simp only [cond_true] at h
        split at h
        · rename_i fs la lb hd
          obtain ⟨xs, rfl, hxs⟩ := hx
          obtain ⟨ys, rfl, hys⟩ := hy
          rw [hd] at hu
          have hf : P.fieldsOf t = fs := by simp [Program.fieldsOf, hu]
          rw [run_equalIn_struct w D' t xs ys (by rw [hf]; exact hu) (F.plain t ti ht hp).1, hf]
          generalize fs.toList = l at h
          clear hu hf hd
          induction l with
          | nil => simp [eqT.eqFields] at h; subst h; simp [Op.eqFields]
          | cons f l ih =>
            simp only [eqT.eqFields] at h
            cases hn : f.name == "_" with
            | true =>
              rw [hn] at h
              have hn' : f.name = "_" := by simpa using hn
              simp only [cond_true] at h
              simp only [Op.eqFields, hn', ne_eq, not_true_eq_false, if_false]
              exact ih h
            | false =>
              rw [hn] at h
              have hn' : ¬ f.name = "_" := by simpa using hn
              simp only [cond_false] at h
              split at h
              · cases h
              · rename_i tf htf
                split at h
                · rename_i x1 y1 hx1 hy1
                  obtain ⟨v1, q1, c1⟩ := part_run F htf hxs hx1 w
                  obtain ⟨v2, q2, c2⟩ := part_run F htf hys hy1 w
                  simp only [Op.eqFields, hn', ne_eq, not_false_eq_true, if_true, Sem.run_bind, q1, q2, Result.andThen_ok]
                  split at h
                  · rename_i he
                    have := eqT_run F d f.type x1 y1 true he v1 v2 c1 c2 D' (by omega)
                    simp only [this, Result.andThen_ok, Bool.not_true, Bool.false_eq_true, if_false]
                    exact ih h
                  · rename_i r' hr'
                    cases r with
                    | true => exact absurd h (fun e => hr' e)
                    | false =>
                      have := eqT_run F d f.type x1 y1 false h v1 v2 c1 c2 D' (by omega)
                      simp [this]
                · cases h
        · rename_i n e la lb hd
          obtain ⟨xs, rfl, hxs⟩ := hx
          obtain ⟨ys, rfl, hys⟩ := hy
          rw [hd] at hu
          cases hte : K.types.get e with
          | none => rw [hte] at h; simp [eqT.eqArr] at h
          | some te =>
            rw [hte] at h
            simp only [eqT.eqArr] at h
            split at h
            · rename_i q hq
              cases hb : (Nat.beq te.size 1 && Nat.beq la.length n && Nat.beq lb.length n) with
              | false => rw [hb] at h; simp at h
              | true =>
                rw [hb] at h
                simp only [cond_true] at h
                simp only [Bool.and_eq_true] at hb
                have h1 := Nat.eq_of_beq_eq_true hb.1.1
                have h2 := Nat.eq_of_beq_eq_true hb.1.2
                obtain ⟨i, hi, hs, _⟩ := F.info e te hte
                have he := F.und e te hte
                rw [hq] at he
                obtain ⟨D'', rfl⟩ : ∃ D'', D' = D'' + 1 := ⟨D' - 1, by
                  omega⟩
                rw [run_equalIn_array w (D'' + 1) xs ys hu hi]
                have hc : P.cellsOf e = 1 := by simp [Program.cellsOf, hi, hs, h1]
                rw [hc, List.range_eq_range', ← h2]
                exact eqInts_run he D'' 0 la lb r h (by simpa using hxs) (by simpa using hys)
            · cases h
        · rename_i p q hd
          rw [hd] at hu
          have ha : a = .bool p := hx
          have hb : b = .bool q := hy
          subst ha; subst hb
          cases h
          rw [Op.equalIn]; simp [run_underlying hu w]
        · rename_i k' k n k2 n2 hd
          rw [hd] at hu
          have ha : a = .int k n := hx
          have hb : b = .int k2 n2 := hy
          subst ha; subst hb
          split at h
          · rename_i hk
            subst hk
            cases h
            rw [Op.equalIn]; simp [run_underlying hu w]
          · cases h
        · rename_i p q hd
          rw [hd] at hu
          have ha : a = .string ⟨⟨p⟩⟩ := hx
          have hb : b = .string ⟨⟨q⟩⟩ := hy
          subst ha; subst hb
          cases h
          rw [Op.equalIn]
          simp only [Sem.run_bind, run_underlying hu w, Result.andThen_ok, Sem.run_pure]
          rw [beq_toListBytes, ByteArray.toList_eq, ByteArray.toList_eq, eqStr_eq]
        · cases h

end
end Go.Ev
