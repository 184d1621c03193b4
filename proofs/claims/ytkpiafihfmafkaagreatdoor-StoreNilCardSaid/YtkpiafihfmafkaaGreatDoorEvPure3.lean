/- Operations that touch no memory: elements, literals, slices. -/
import Derived.Test.YtkpiafihfmafkaaGreatDoorEvPure2
namespace Go.Ev
open Go.RowKit

section
variable {K : Cfg} {P : Program} {ρ : Ren} {h : H} {w : World} {ts : Tmps} {e : Operand → Value} {o : Oper} {v : V} {h' : H}

theorem natOf_con {c : Option C} {i : Nat} (h : natOf c = some i) : ∃ k, c = some (.int k i) := by
  unfold natOf at h
  split at h
  · cases h; exact ⟨_, rfl⟩
  · cases h

theorem EvR.nat (he : EvR K ρ ts e) {x : Operand} {i : Nat} (h : natOf (evalC K ts x) = some i) : ∃ k, e x = .int k i := by
  obtain ⟨k, hk⟩ := natOf_con h
  exact ⟨k, he.c hk⟩

theorem blt_lt {a b : Nat} (h : Nat.blt a b = true) : a < b := Nat.le_of_ble_eq_true h
theorem ble_le {a b : Nat} (h : Nat.ble a b = true) : a ≤ b := Nat.le_of_ble_eq_true h

theorem idxIn_some {n off len sz : Nat} {i : Option Nat} {c : C} (h : idxIn n off len sz i = some c) : ∃ k, i = some k ∧ k < len ∧ c = .ptr n (off + k * sz) := by
  unfold idxIn at h
  split at h
  · rename_i k
    cases hb : Nat.blt k len with
    | true => rw [hb] at h; cases h; exact ⟨k, rfl, blt_lt hb, rfl⟩
    | false => rw [hb] at h; cases h
  · cases h

theorem good_indexAddr (F : Fits K P) (hr : Rep K ρ h w) (he : EvR K ρ ts e) {t : TypeId} {x y : Operand} (hop : o.op = .indexAddr t x y) (hv : outC h (opIndexAddr K (K.types.get t) (evalC K ts x) (natOf (evalC K ts y))) = some (v, h')) : Same ρ h w v h' ((execOp e o).run P w) := by
  obtain ⟨c, hq, rfl, rfl⟩ := outC_some hv
  clear hv
  unfold opIndexAddr at hq
  split at hq
  · rename_i ti n off hti hx
    split at hq
    · rename_i len el hd
      split at hq
      · rename_i te hte
        obtain ⟨i, hi, hlt, rfl⟩ := idxIn_some hq
        obtain ⟨k, hk⟩ := he.nat hi
        obtain ⟨l, hl, hp⟩ := he.c hx
        have hu := F.und t ti hti
        rw [hd] at hu
        refine Same.of hr (val := .pointer (some (l.at (off + i * te.size)))) ?_ ⟨l, hl, rfl⟩
        have h1 : ((0 : Int) ≤ (i : Int)) := by omega
        have h2 : ((i : Int) < (len : Int)) := by omega
        simp [execOp, hop, hp, hk, Instr.indexAt, asIntOf, run_underlying hu w, Instr.sureAddr, sizeOf_run F hte w, hlt, add_at]
      · cases hq
    · cases hq
  · rename_i ti n off len sz hti hx
    split at hq
    · rename_i el hd
      split at hq
      · rename_i te hte
        cases hb : Nat.beq sz te.size with
        | false => rw [hb] at hq; cases hq
        | true =>
          rw [hb] at hq
          simp only [cond_true] at hq
          have hsz := Nat.eq_of_beq_eq_true hb
          obtain ⟨i, hi, hlt, rfl⟩ := idxIn_some hq
          obtain ⟨k, hk⟩ := he.nat hi
          obtain ⟨l, a, cap, hl, hp, hcase⟩ := he.c hx
          have ha : a = l.at off := by
            rcases hcase with ⟨h0, _⟩ | ⟨ha, _⟩
            · omega
            · exact ha
          have hu := F.und t ti hti
          rw [hd] at hu
          refine Same.of hr (val := .pointer (some (l.at (off + i * te.size)))) ?_ ⟨l, hl, rfl⟩
          simp [execOp, hop, hp, hk, ha, Instr.indexAt, asIntOf, run_underlying hu w, sizeOf_run F hte w, hlt, add_at]
      · cases hq
    · cases hq
  · cases hq

theorem good_index (F : Fits K P) (hr : Rep K ρ h w) (he : EvR K ρ ts e) {t : TypeId} {x y : Operand} (hop : o.op = .index t x y) (hv : outW h (opIndex K (K.types.get t) (evalW K ts x) (natOf (evalC K ts y))) = some (v, h')) : Same ρ h w v h' ((execOp e o).run P w) := by
  obtain ⟨c, hq, rfl, rfl⟩ := outW_some hv
  clear hv
  unfold opIndex at hq
  split at hq
  · rename_i s hx
    split at hq
    · rename_i ti hti
      split at hq
      · rename_i hd
        unfold strAt at hq
        split at hq
        · rename_i i hi
          obtain ⟨k, hk⟩ := he.nat hi
          split at hq
          · rename_i b hb
            cases hq
            have hu := F.und t ti hti
            rw [hd] at hu
            have hs : e x = .string ⟨⟨s⟩⟩ := he.w hx
            have hb' : (⟨⟨s⟩⟩ : ByteArray)[i]? = some b := by
              have hlt : i < s.length := (List.getElem?_eq_some_iff.1 hb).1
              have hlt' : i < (⟨⟨s⟩⟩ : ByteArray).size := hlt
              rw [getElem?_pos (⟨⟨s⟩⟩ : ByteArray) i hlt']
              have := (List.getElem?_eq_some_iff.1 hb).2
              rw [← this]
              rfl
            refine Same.of hr (val := .int .u8 b.toNat) ?_ rfl
            simp [execOp, hop, hs, hk, Instr.index, asIntOf, run_underlying hu w, hb']
          · cases hq
        · cases hq
      · cases hq
    · cases hq
  · rename_i l hx
    unfold arrAt at hq
    split at hq
    · rename_i ti i hti hi
      split at hq
      · rename_i len el hd
        split at hq
        · rename_i te hte
          cases hb : Nat.blt i len with
          | false => rw [hb] at hq; cases hq
          | true =>
            rw [hb] at hq
            simp only [cond_true] at hq
            have hlt := blt_lt hb
            obtain ⟨k, hk⟩ := he.nat hi
            obtain ⟨xs, hxs, ha⟩ := he.w hx
            have hu := F.und t ti hti
            rw [hd] at hu
            obtain ⟨u, hu1, hu2⟩ := part_run F hte ha hq w
            refine Same.of hr (val := u) ?_ hu2
            simp [execOp, hop, hxs, hk, Instr.index, asIntOf, run_underlying hu w, sizeOf_run F hte w, hlt, hu1]
        · cases hq
      · cases hq
    · cases hq
  · cases hq

theorem ptrs_con : ∀ {l : List W} {ps : List (Option (Nat × Nat))} {vs : List Value}, ptrs l = some ps → All2 (ConW ρ) l vs → All2 (ConQ ρ) ps vs
  | [], ps, vs, h, hc => by
    simp [ptrs] at h; subst h
    cases vs with
    | nil => trivial
    | cons _ _ => exact hc.elim
  | x :: l, ps, vs, h, hc => by
    cases vs with
    | nil => exact hc.elim
    | cons u vs =>
      unfold ptrs at h
      split at h
      · simp at *
      · rename_i n o' l' heq
        cases heq
        split at h
        · cases h
        · rename_i r hr'
          cases h
          exact ⟨hc.1, ptrs_con hr' hc.2⟩
      · rename_i l' heq
        cases heq
        split at h
        · cases h
        · rename_i r hr'
          cases h
          exact ⟨hc.1, ptrs_con hr' hc.2⟩
      · cases h

theorem good_makeFunc (hr : Rep K ρ h w) (he : EvR K ρ ts e) {fn : Fn} {first caps : Array Operand} (hop : o.op = .makeFunc fn first caps) (hv : outC h (opMakeFuncF K ts first caps fn) = some (v, h')) : Same ρ h w v h' ((execOp e o).run P w) := by
  obtain ⟨c, hq, rfl, rfl⟩ := outC_some hv
  clear hv
  unfold opMakeFuncF at hq
  split at hq
  · rename_i f
    unfold opMakeFunc at hq
    split at hq
    · rename_i a b ha hb
      split at hq
      · rename_i a' b' ha' hb'
        cases hq
        refine Same.of hr (val := .func (.func f) (first.map e) (caps.map e)) (by simp [execOp, hop, Instr.makeFunc]) ⟨_, _, rfl, ?_, ?_⟩
        · rw [Array.toList_map]; exact ptrs_con ha' (he.ws ha)
        · rw [Array.toList_map]; exact ptrs_con hb' (he.ws hb)
      · cases hq
    · cases hq
  · cases hq

/-! ### Slices -/
theorem EvR.opt (he : EvR K ρ ts e) {x : Option Operand} {c : Option C} (h : optC K ts x = some c) : (x = none ∧ c = none) ∨ ∃ y d, x = some y ∧ c = some d ∧ Con ρ d (e y) := by
  unfold optC at h
  split at h
  · cases h; exact .inl ⟨rfl, rfl⟩
  · rename_i y
    split at h
    · rename_i d hd
      cases h
      exact .inr ⟨y, d, rfl, rfl, he.c hd⟩
    · cases h

/-- A bound: given, or not. -/
theorem EvR.bnd (he : EvR K ρ ts e) {x : Option Operand} {d i : Nat} (h : bound d (optC K ts x) = some i) : (x = none ∧ i = d) ∨ ∃ y k, x = some y ∧ e y = .int k i := by
  cases hc : optC K ts x with
  | none => rw [hc] at h; simp [bound] at h
  | some c =>
    rw [hc] at h
    rcases he.opt hc with ⟨rfl, rfl⟩ | ⟨y, c', rfl, rfl, hy⟩
    · simp [bound] at h; exact .inl ⟨rfl, h.symm⟩
    · simp only [bound] at h
      obtain ⟨k, hk⟩ := natOf_con h
      cases hk
      exact .inr ⟨y, k, rfl, hy⟩

theorem EvR.gvn (he : EvR K ρ ts e) {x : Option Operand} {i : Nat} (h : given (optC K ts x) = some i) : ∃ y k, x = some y ∧ e y = .int k i := by
  cases hc : optC K ts x with
  | none => rw [hc] at h; simp [given] at h
  | some c =>
    rw [hc] at h
    rcases he.opt hc with ⟨rfl, rfl⟩ | ⟨y, c', rfl, rfl, hy⟩
    · simp [given] at h
    · simp only [given] at h
      obtain ⟨k, hk⟩ := natOf_con h
      cases hk
      exact ⟨y, k, rfl, hy⟩

theorem sliceBound_run {x : Value} {k : IntKind} {i y : Nat} {code : BoundsCode} (hx : x = .int k i) (hle : i ≤ y) : (Instr.sliceBound x y code).run P w = .ok i w := by
  subst hx
  have h1 : ((i : Int) ≤ (y : Int)) := by omega
  simp [Instr.sliceBound, asIntOf, h1]

theorem sliceBounds_run (b : Bool) {len cap l r : Nat} {lo hi : Option Value} (hlo : (lo = none ∧ l = 0) ∨ ∃ y k, lo = some y ∧ y = .int k l) (hhi : (hi = none ∧ r = len) ∨ ∃ y k, hi = some y ∧ y = .int k r) (h1 : l ≤ r) (h2 : r ≤ cap) :
    (Instr.sliceBounds b len cap lo hi none).run P w = .ok (l, r, cap) w := by
  rcases hlo with ⟨rfl, rfl⟩ | ⟨y, k, rfl, hy⟩ <;> rcases hhi with ⟨rfl, rfl⟩ | ⟨z, k', rfl, hz⟩
  · simp [Instr.sliceBounds]
  · simp [Instr.sliceBounds, sliceBound_run (P := P) (w := w) hz h2]
  · simp [Instr.sliceBounds, sliceBound_run (P := P) (w := w) hy h1]
  · simp [Instr.sliceBounds, sliceBound_run (P := P) (w := w) hz h2, sliceBound_run (P := P) (w := w) hy h1]

theorem sliceBounds3_run {len cap l r m : Nat} {lo hi : Option Value} {mx : Value} {k : IntKind} (hm : mx = .int k m) (hlo : (lo = none ∧ l = 0) ∨ ∃ y k, lo = some y ∧ y = .int k l) (hhi : ∃ y k, hi = some y ∧ y = .int k r) (h1 : l ≤ r) (h2 : r ≤ m) (h3 : m ≤ cap) :
    (Instr.sliceBounds true len cap lo hi (some mx)).run P w = .ok (l, r, m) w := by
  obtain ⟨z, k', rfl, hz⟩ := hhi
  rcases hlo with ⟨rfl, rfl⟩ | ⟨y, k, rfl, hy⟩
  · simp [Instr.sliceBounds, sliceBound_run (P := P) (w := w) hm h3, sliceBound_run (P := P) (w := w) hz h2]
  · simp [Instr.sliceBounds, sliceBound_run (P := P) (w := w) hm h3, sliceBound_run (P := P) (w := w) hz h2, sliceBound_run (P := P) (w := w) hy h1]

theorem bnd_map {x : Option Operand} {i d : Nat} (h : (x = none ∧ i = d) ∨ ∃ y k, x = some y ∧ e y = .int k i) : (x.map e = none ∧ i = d) ∨ ∃ y k, x.map e = some y ∧ y = .int k i := by
  rcases h with ⟨rfl, h⟩ | ⟨y, k, rfl, h⟩
  · exact .inl ⟨rfl, h⟩
  · exact .inr ⟨e y, k, rfl, h⟩

theorem reaches_room (hr : Rep K ρ h w) {n off k : Nat} {l : Loc} (hl : ρ n = some l) (hb : reaches off k (h.get n) = true) : l.base + off + k ≤ l.room := by
  cases ho : h.get n with
  | none => rw [ho] at hb; simp [reaches] at hb
  | some ob =>
    rw [ho] at hb
    obtain ⟨l', hl', hor⟩ := hr.obj n ob ho
    rw [hl] at hl'
    cases hl'
    cases ob with
    | row sz els ro =>
      simp only [reaches] at hb
      split at hb
      · rename_i c hc
        obtain ⟨cs, t, fr, hcell, hsz, _, _, hread⟩ := hor
        obtain ⟨v, hv, _⟩ := hread _ c hc
        have := (Array.getElem?_eq_some_iff.1 hv).1
        have := ble_le hb
        omega
      · cases hb
    | _ => simp [reaches] at hb

theorem good_slice (F : Fits K P) (hr : Rep K ρ h w) (he : EvR K ρ ts e) {t : TypeId} {x : Operand} {lo hi m : Option Operand} (hop : o.op = .slice t x lo hi m) (hv : outC h (opSliceM K ts h t x lo hi m) = some (v, h')) : Same ρ h w v h' ((execOp e o).run P w) := by
  obtain ⟨c, hq, rfl, rfl⟩ := outC_some hv
  clear hv
  unfold opSliceM at hq
  split at hq
  · unfold opSlice at hq
    split at hq
    · rename_i ti s hti hx
      split at hq
      · rename_i hd
        unfold cutStr at hq
        split at hq
        · rename_i l r hl hr'
          cases hb : (Nat.ble l r && Nat.ble r s.length) with
          | false => rw [hb] at hq; cases hq
          | true =>
            rw [hb] at hq
            cases hq
            simp only [Bool.and_eq_true] at hb
            have hu := F.und t ti hti
            rw [hd] at hu
            have hs : e x = .string ⟨⟨s⟩⟩ := he.c hx
            have hbs := sliceBounds_run (P := P) (w := w) false (len := s.length) (cap := s.length) (bnd_map (he.bnd hl)) (bnd_map (he.bnd hr')) (ble_le hb.1) (ble_le hb.2)
            refine Same.of hr (val := .string (ByteArray.extract ⟨⟨s⟩⟩ l r)) ?_ ?_
            · have hsz : (⟨⟨s⟩⟩ : ByteArray).size = s.length := rfl
              simp [execOp, hop, hs, Instr.sliceAt, run_underlying hu w, Instr.slice, hsz, hbs]
            · show Value.string _ = .string _
              congr 1
              have : (ByteArray.extract ⟨⟨s⟩⟩ l r).data = (⟨s⟩ : Array UInt8).extract l r := by
                simp [ByteArray.data_extract]
              cases hx' : ByteArray.extract ⟨⟨s⟩⟩ l r with
              | mk d =>
                rw [hx'] at this
                simp only at this
                rw [this]
                congr 1
                apply Array.ext'
                rw [Array.toList_extract, List.extract_eq_take_drop, List.drop_take]
        · cases hq
      · cases hq
    · rename_i ti hti hx
      split at hq
      · rename_i el hd
        unfold cutNil at hq
        split at hq
        · rename_i hl hr'
          cases hq
          have hu := F.und t ti hti
          rw [hd] at hu
          have hs : e x = .slice none 0 0 := he.c hx
          have hbs := sliceBounds_run (P := P) (w := w) true (len := 0) (cap := 0) (bnd_map (he.bnd hl)) (bnd_map (he.bnd hr')) (Nat.le_refl 0) (Nat.le_refl 0)
          obtain ⟨te, hte⟩ := F.elem t ti el hti hd
          refine Same.of hr (val := .slice none 0 0) ?_ rfl
          simp [execOp, hop, hs, Instr.sliceAt, run_underlying hu w, Instr.slice, hbs, sizeOf, typeInfo, hte]
        · cases hq
      · cases hq
    · rename_i ti n off len sz hti hx
      split at hq
      · rename_i el hd
        split at hq
        · rename_i te hte
          cases hb0 : Nat.beq te.size sz with
          | false => rw [hb0] at hq; cases hq
          | true =>
            rw [hb0] at hq
            simp only [cond_true] at hq
            have hsz := Nat.eq_of_beq_eq_true hb0
            unfold cutSl at hq
            split at hq
            · rename_i l r hl hr'
              cases hb : (Nat.ble l r && Nat.ble r len) with
              | false => rw [hb] at hq; cases hq
              | true =>
                rw [hb] at hq
                cases hq
                simp only [Bool.and_eq_true] at hb
                have h1 := ble_le hb.1
                have h2 := ble_le hb.2
                have hu := F.und t ti hti
                rw [hd] at hu
                obtain ⟨lc, a, cap, hlc, hp, hcase⟩ := he.c hx
                have hlen : len ≤ cap := by rcases hcase with ⟨p, q⟩ | ⟨_, p, _⟩ <;> omega
                have hbs := sliceBounds_run (P := P) (w := w) true (len := len) (cap := cap) (bnd_map (he.bnd hl)) (bnd_map (he.bnd hr')) h1 (by omega)
                refine Same.of hr (val := .slice (some (if cap = l then a else a.add (l * te.size))) (r - l) (cap - l)) ?_ ⟨lc, _, _, hlc, rfl, ?_⟩
                · simp only [execOp, hop, hp]
                  simp [Instr.sliceAt, run_underlying hu w, Instr.slice, hbs, sizeOf_run F hte w]
                  split <;> rfl
                · by_cases hcl : cap = l
                  · exact .inl ⟨by omega, by omega⟩
                  · rw [if_neg hcl]
                    rcases hcase with ⟨p, q⟩ | ⟨p, q, s⟩
                    · omega
                    · refine .inr ⟨by rw [p, add_at, hsz], by omega, ?_⟩
                      rw [← hsz] at s ⊢
                      have : l * te.size + (cap - l) * te.size = cap * te.size := by rw [← Nat.add_mul]; congr 1; omega
                      omega
            · cases hq
        · cases hq
      · cases hq
    · rename_i ti n off hti hx
      split at hq
      · rename_i len el hd
        split at hq
        · rename_i te hte
          cases hb0 : reaches off (len * te.size) (h'.get n) with
          | false => rw [hb0] at hq; cases hq
          | true =>
            rw [hb0] at hq
            simp only [cond_true] at hq
            unfold cutSl at hq
            split at hq
            · rename_i l r hl hr'
              cases hb : (Nat.ble l r && Nat.ble r len) with
              | false => rw [hb] at hq; cases hq
              | true =>
                rw [hb] at hq
                cases hq
                simp only [Bool.and_eq_true] at hb
                have h1 := ble_le hb.1
                have h2 := ble_le hb.2
                have hu := F.und t ti hti
                rw [hd] at hu
                obtain ⟨lc, hlc, hp⟩ := he.c hx
                have hbs := sliceBounds_run (P := P) (w := w) false (len := len) (cap := len) (bnd_map (he.bnd hl)) (bnd_map (he.bnd hr')) h1 h2
                refine Same.of hr (val := .slice (some (if len = l then lc.at off else (lc.at off).add (l * te.size))) (r - l) (len - l)) ?_ ⟨lc, _, _, hlc, rfl, ?_⟩
                · simp only [execOp, hop, hp]
                  simp [Instr.sliceAt, run_underlying hu w, Instr.sureAddr, hbs, sizeOf_run F hte w]
                · by_cases hcl : len = l
                  · exact .inl ⟨by omega, by omega⟩
                  · rw [if_neg hcl]
                    refine .inr ⟨add_at _ _ _, by omega, ?_⟩
                    have hroom := reaches_room hr hlc hb0
                    have : l * te.size + (len - l) * te.size = len * te.size := by rw [← Nat.add_mul]; congr 1; omega
                    omega
            · cases hq
        · cases hq
      · cases hq
    · cases hq
  · rename_i mo
    unfold opSlice3 at hq
    split at hq
    · rename_i ti n off len sz hti hx
      split at hq
      · rename_i el hd
        split at hq
        · rename_i te hte
          cases hb0 : Nat.beq te.size sz with
          | false => rw [hb0] at hq; cases hq
          | true =>
            rw [hb0] at hq
            simp only [cond_true] at hq
            have hsz := Nat.eq_of_beq_eq_true hb0
            unfold cutSl3 at hq
            split at hq
            · rename_i l r m hl hr' hm
              cases hb : (Nat.ble l r && Nat.ble r m && Nat.ble m len) with
              | false => rw [hb] at hq; cases hq
              | true =>
                rw [hb] at hq
                cases hq
                simp only [Bool.and_eq_true] at hb
                have h1 := ble_le hb.1.1
                have h2 := ble_le hb.1.2
                have h3 := ble_le hb.2
                have hu := F.und t ti hti
                rw [hd] at hu
                obtain ⟨lc, a, cap, hlc, hp, hcase⟩ := he.c hx
                have hlen : len ≤ cap := by rcases hcase with ⟨p, q⟩ | ⟨_, p, _⟩ <;> omega
                obtain ⟨mo', km, hmo, hkm⟩ := he.gvn hm
                cases hmo
                obtain ⟨hy, hk, hhy, hhk⟩ := he.gvn hr'
                subst hhy
                · have hbs := sliceBounds3_run (P := P) (w := w) (len := len) (cap := cap) (k := km) rfl (bnd_map (he.bnd hl)) ⟨e hy, hk, rfl, hhk⟩ h1 h2 (by omega)
                  refine Same.of hr (val := .slice (some (if m = l then a else a.add (l * te.size))) (r - l) (m - l)) ?_ ⟨lc, _, _, hlc, rfl, ?_⟩
                  · simp only [execOp, hop, hp]
                    simp [Instr.sliceAt, run_underlying hu w, Instr.slice, hkm, hbs, sizeOf_run F hte w]
                    split <;> rfl
                  · by_cases hcl : m = l
                    · exact .inl ⟨by omega, by omega⟩
                    · rw [if_neg hcl]
                      rcases hcase with ⟨p, q⟩ | ⟨p, q, s⟩
                      · omega
                      · refine .inr ⟨by rw [p, add_at, hsz], by omega, ?_⟩
                        rw [← hsz] at s ⊢
                        have t1 : l * te.size + (m - l) * te.size = m * te.size := by rw [← Nat.add_mul]; congr 1; omega
                        have t2 : m * te.size ≤ cap * te.size := Nat.mul_le_mul_right _ (by omega)
                        omega
            · cases hq
        · cases hq
      · cases hq
    · cases hq

end
end Go.Ev
