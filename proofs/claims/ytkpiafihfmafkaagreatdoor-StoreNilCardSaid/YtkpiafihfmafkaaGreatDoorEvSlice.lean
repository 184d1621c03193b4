/- Slices: what they hold; append, copy, clear. -/
import Derived.Test.YtkpiafihfmafkaaGreatDoorEvNew
import Derived.Deep.AppendSrc
import Derived.Deep.Upon
namespace Go.Ev
open Go.RowKit

section
variable {K : Cfg} {P : Program} {ρ : Ren} {h : H} {w : World} {ts : Tmps} {e : Operand → Value} {o : Oper} {v : V} {h' : H}

theorem chunks_some (sz : Nat) : ∀ (k : Nat) (l : List C), l.length = k * sz → (chunks sz k l).length = k ∧ (∀ x ∈ chunks sz k l, x.length = sz) ∧ (chunks sz k l).flatten = l
  | 0, l, h => by
    have : l = [] := List.length_eq_zero_iff.1 (by simpa using h)
    subst this
    simp [chunks]
  | k + 1, l, h => by
    rw [Nat.succ_mul] at h
    obtain ⟨a, b, c⟩ := chunks_some sz k (l.drop sz) (by rw [List.length_drop]; omega)
    refine ⟨by simp [chunks, a], fun x hx => ?_, by simp [chunks, c]⟩
    simp only [chunks, List.mem_cons] at hx
    rcases hx with rfl | hx
    · rw [List.length_take]; omega
    · exact b x hx

/-- Elements of a row. -/
theorem readMany_some {sz : Nat} {els : List (List C)} (hw : ∀ x ∈ els, x.length = sz) {off sz' k : Nat} {xs : List (List C)} (hx : readMany sz els off sz' k = some xs) :
    xs.length = k ∧ (∀ x ∈ xs, x.length = sz') ∧ ∀ (i : Nat) c, xs.flatten[i]? = some c → read1 sz els (off + i) = some c := by
  unfold readMany at hx
  cases hb : Nat.beq k 0 with
  | true =>
    rw [hb] at hx
    cases hx
    exact ⟨(Nat.eq_of_beq_eq_true hb).symm, by simp, by simp⟩
  | false =>
    rw [hb] at hx
    simp only [cond_false] at hx
    cases hb1 : Nat.beq sz sz' with
    | true =>
      rw [hb1] at hx
      have hss := Nat.eq_of_beq_eq_true hb1
      subst hss
      simp only [cond_true] at hx
      cases hb2 : (Nat.beq (off % sz) 0 && Nat.ble (off / sz + k) els.length) with
      | false => rw [hb2] at hx; cases hx
      | true =>
        rw [hb2] at hx
        cases hx
        simp only [Bool.and_eq_true] at hb2
        have h0 := Nat.eq_of_beq_eq_true hb2.1
        have h1 := ble_le hb2.2
        refine ⟨by rw [List.length_take, List.length_drop]; omega, fun x hx => hw x (List.mem_of_mem_drop (List.mem_of_mem_take hx)), fun i c hc => ?_⟩
        -- by elements
        have key : ∀ (l : List (List C)) (q : Nat), (∀ x ∈ l, x.length = sz) → (∀ (j : Nat) x, l[j]? = some x → els[q + j]? = some x) → ∀ (i : Nat) c, l.flatten[i]? = some c → read1 sz els (q * sz + i) = some c := by
          intro l
          induction l with
          | nil => intro q _ _ i c hc; simp at hc
          | cons y l ih =>
            intro q hl hq i c hc
            have hy := hl y (by simp)
            rw [List.flatten_cons] at hc
            by_cases hi : i < sz
            · rw [List.getElem?_append_left (by omega)] at hc
              have := hq 0 y rfl
              unfold read1
              have e1 : (q * sz + i) / sz = q := by rw [Nat.mul_comm, Nat.mul_add_div (by omega), Nat.div_eq_of_lt hi, Nat.add_zero]
              have e2 : (q * sz + i) % sz = i := by rw [Nat.mul_comm, Nat.mul_add_mod, Nat.mod_eq_of_lt hi]
              rw [e1]
              rw [Nat.add_zero] at this
              rw [this]
              simp only [e2]
              exact hc
            · rw [List.getElem?_append_right (by omega), hy] at hc
              have := ih (q + 1) (fun x hx => hl x (by simp [hx])) (fun j x hx => by
                have := hq (j + 1) x (by simpa using hx)
                rw [← this]; congr 1; omega) (i - sz) c hc
              rw [Nat.succ_mul] at this
              rw [← this]
              congr 1
              omega
        have hoff : off = off / sz * sz := by
          have := Nat.div_add_mod off sz
          rw [h0, Nat.mul_comm] at this
          omega
        rw [hoff]
        refine key _ (off / sz) (fun x hx => hw x (List.mem_of_mem_drop (List.mem_of_mem_take hx))) (fun j x hx => ?_) i c hc
        have hj : j < k := by
          have := (List.getElem?_eq_some_iff.1 hx).1
          rw [List.length_take] at this
          omega
        rw [List.getElem?_take_of_lt hj, List.getElem?_drop] at hx
        exact hx
    | false =>
      rw [hb1] at hx
      simp only [cond_false] at hx
      split at hx
      · cases hx
      · rename_i l hl
        cases hx
        obtain ⟨a, b⟩ := read1_of_readRow hw hl
        obtain ⟨c1, c2, c3⟩ := chunks_some sz' k l a
        exact ⟨c1, c2, fun i c hc => b i c (by rw [c3] at hc; exact hc)⟩

theorem srcFits_slice {t : TypeId} {x : C} (F : Fits K P) (hf : srcFits K t x = true) (hx : (∃ s, x = .str s) → False) : ∃ e', P.underlying t = some (.slice e') := by
  unfold srcFits at hf
  split at hf
  · rename_i ti hti
    have hu := F.und t ti hti
    split at hf
    · rename_i s hd
      exact (hx ⟨s, rfl⟩).elim
    · rename_i e' hd; rw [hd] at hu; exact ⟨e', hu⟩
    · rename_i e' _ _ _ _ hd; rw [hd] at hu; exact ⟨e', hu⟩
    · cases hf
  · cases hf
theorem srcFits_str {t : TypeId} {s : List UInt8} (F : Fits K P) (hf : srcFits K t (.str s) = true) : P.underlying t = some .string := by
  unfold srcFits at hf
  split at hf
  · rename_i ti hti
    have hu := F.und t ti hti
    split at hf
    · rename_i hd _; rw [hd] at hu; exact hu
    · rename_i hx; cases hx
    · rename_i hx; cases hx
    · cases hf
  · cases hf

theorem flatten_singles {α β : Type} (g : α → β) : ∀ l : List α, (l.map fun c => [g c]).flatten = l.map g
  | [] => rfl
  | a :: l => by
    rw [List.map_cons, List.flatten_cons, flatten_singles g l]
    rfl
theorem bytes_con (ρ : Ren) : ∀ s : List UInt8, All2 (Con ρ) (s.map fun c => C.int .u8 c.toNat) (s.map fun b => Value.int .u8 b.toNat)
  | [] => trivial
  | _ :: s => ⟨rfl, bytes_con ρ s⟩

/-- What a slice or a string gives to append. -/
theorem slice_src (F : Fits K P) (hr : Rep K ρ h w) {c : C} {u : Value} (hc : Con ρ c u) {t : TypeId} {sz : Nat} (hf : srcFits K t c = true) {els : List (List C)} (hels : sliceEls h sz c = some els) :
    ∃ news, Src P sz t u els.length news w ∧ All2 (Con ρ) els.flatten news ∧ ∀ x ∈ els, x.length = sz := by
  unfold sliceEls at hels
  split at hels
  · cases hels
    obtain ⟨e', hk⟩ := srcFits_slice F hf (fun ⟨s, hs⟩ => by cases hs)
    have : u = .slice none 0 0 := hc
    subst this
    exact ⟨[], Src.ofNil w hk 0, trivial, by simp⟩
  · rename_i n off len sz'
    obtain ⟨e', hk⟩ := srcFits_slice F hf (fun ⟨s, hs⟩ => by cases hs)
    cases hb : Nat.beq sz sz' with
    | false => rw [hb] at hels; cases hels
    | true =>
      rw [hb] at hels
      simp only [cond_true] at hels
      obtain ⟨l, a, cap, hl, rfl, hcase⟩ := hc
      cases hb0 : Nat.beq len 0 with
      | true =>
        rw [hb0] at hels
        cases hels
        have h0 := Nat.eq_of_beq_eq_true hb0
        subst h0
        exact ⟨[], Src.ofSlice w hk a 0 cap [] (by simp) (by simp) (by simp), trivial, by simp⟩
      | false =>
        rw [hb0] at hels
        simp only [cond_false] at hels
        have hne : len ≠ 0 := fun e => by rw [e] at hb0; cases hb0
        have ha : a = l.at off := by
          rcases hcase with ⟨p, _⟩ | ⟨p, _⟩
          · exact absurd p hne
          · exact p
        unfold rowEls at hels
        split at hels
        · rename_i sz0 els0 ro ho
          obtain ⟨l', hl', hor⟩ := hr.obj n _ ho
          rw [hl] at hl'
          cases hl'
          obtain ⟨cs, t', fr, hb', hsz, hfr, hw, hread⟩ := hor
          obtain ⟨x1, x2, x3⟩ := readMany_some hw hels
          have hfl := flatten_length x2
          -- the cells in the world
          have key : ∀ (i : Nat) c, els.flatten[i]? = some c → ∃ v, cs[l.base + off + i]? = some v ∧ Con ρ c v := fun i c hc => by
            obtain ⟨v, hv, hcon⟩ := hread _ c (x3 i c hc)
            exact ⟨v, by rw [Nat.add_assoc]; exact hv, hcon⟩
          have hlen2 : els.flatten.length = len * sz := by rw [hfl, x1]
          have htake : ((cs.toList.drop (l.base + off)).take (len * sz)).length = len * sz := by
            rw [List.length_take, List.length_drop]
            by_cases hz : len * sz = 0
            · omega
            · obtain ⟨c, hc⟩ : ∃ c, els.flatten[len * sz - 1]? = some c := ⟨els.flatten[len * sz - 1]'(by omega), List.getElem?_eq_getElem (by omega)⟩
              obtain ⟨v, hv, _⟩ := key _ c hc
              have := (Array.getElem?_eq_some_iff.1 hv).1
              rw [Array.length_toList]
              omega
          have hall : All2 (Con ρ) els.flatten ((cs.toList.drop (l.base + off)).take (len * sz)) := by
            refine All2.of_get (by rw [hlen2, htake]) (fun i a b ha hb => ?_)
            have hi : i < len * sz := by
              have := (List.getElem?_eq_some_iff.1 ha).1
              omega
            obtain ⟨v, hv, hcon⟩ := key i a ha
            rw [List.getElem?_take_of_lt hi, List.getElem?_drop] at hb
            have : cs[l.base + off + i]? = some b := by rw [← hb]; simp
            rw [hv] at this
            cases this
            exact hcon
          refine ⟨_, ?_, hall, x2⟩
          rw [x1, ha]
          refine Src.ofSlice w hk (l.at off) len cap _ htake (fun j u hu => ?_) (fun u hu => ?_)
          · rw [add_at]
            show w.cell? ⟨l.blk, l.base + (off + j), none⟩ = _
            rw [cell_of hb']
            have hj : j < len * sz := by
              have := (List.getElem?_eq_some_iff.1 hu).1
              omega
            rw [List.getElem?_take_of_lt hj, List.getElem?_drop] at hu
            rw [← hu, ← Nat.add_assoc]; simp
          · obtain ⟨j, hj⟩ := List.getElem?_of_mem hu
            have hj' : j < els.flatten.length := by
              have := (List.getElem?_eq_some_iff.1 hj).1
              omega
            obtain ⟨b, hb, hcon⟩ := hall.get j _ (List.getElem?_eq_getElem hj')
            rw [hj] at hb
            cases hb
            exact hcon.one.1
        · cases hels
  · rename_i s
    cases hb : Nat.beq sz 1 with
    | false => rw [hb] at hels; cases hels
    | true =>
      rw [hb] at hels
      cases hels
      have h1 := Nat.eq_of_beq_eq_true hb
      subst h1
      have : u = .string ⟨⟨s⟩⟩ := hc
      subst this
      have hfl : (s.map fun c => [C.int .u8 c.toNat]).flatten = s.map fun c => C.int .u8 c.toNat := flatten_singles _ s
      refine ⟨byteCells ⟨⟨s⟩⟩, ?_, ?_, fun x hx => ?_⟩
      · have := Src.ofString w (srcFits_str F hf) ⟨⟨s⟩⟩
        have hsz : (⟨⟨s⟩⟩ : ByteArray).size = (s.map fun c => [C.int .u8 c.toNat]).length := by rw [List.length_map]; rfl
        rw [hsz] at this
        exact this
      · rw [hfl]
        exact bytes_con ρ s
      · obtain ⟨_, _, rfl⟩ := List.mem_map.1 hx
        rfl
  · cases hels

end
end Go.Ev
