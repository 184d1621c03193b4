/- New memory. -/
import Derived.Test.YtkpiafihfmafkaaGreatDoorEvBuild
import Derived.Laws.MakeOwn
import Derived.Great.BuildSlice
namespace Go.Ev
open Go.RowKit

section
variable {K : Cfg} {P : Program} {ρ : Ren} {h : H} {w : World} {ts : Tmps} {e : Operand → Value} {o : Oper} {v : V} {h' : H}

theorem read1_flatten {sz : Nat} : ∀ {els : List (List C)} (_ : ∀ x ∈ els, x.length = sz) (k : Nat) (c : C), read1 sz els k = some c → els.flatten[k]? = some c
  | [], _, k, c, h => by simp [read1] at h
  | x :: els, hw, k, c, h => by
    have hx := hw x (by simp)
    unfold read1 at h
    by_cases hz : sz = 0
    · subst hz
      simp only [Nat.div_zero, List.getElem?_cons_zero, Nat.mod_zero] at h
      have : x = [] := List.length_eq_zero_iff.1 hx
      rw [this] at h
      simp at h
    · by_cases hk : k < sz
      · rw [Nat.div_eq_of_lt hk, Nat.mod_eq_of_lt hk] at h
        simp only [List.getElem?_cons_zero] at h
        rw [List.flatten_cons, List.getElem?_append_left (by omega)]
        exact h
      · have e1 : k / sz = (k - sz) / sz + 1 := by
          rw [← Nat.sub_add_cancel (Nat.le_of_not_lt hk), Nat.add_sub_cancel, Nat.add_div_right _ (by omega)]
        have e2 : k % sz = (k - sz) % sz := by rw [Nat.mod_eq_sub_mod (Nat.le_of_not_lt hk)]
        rw [e1, e2, List.getElem?_cons_succ] at h
        rw [List.flatten_cons, List.getElem?_append_right (by omega), hx]
        exact read1_flatten (fun y hy => hw y (by simp [hy])) (k - sz) c h

theorem heap_alloc_lt (ob : Obj) {k : Nat} (hk : k < w.heap.size) : (w.alloc ob).heap[k]? = w.heap[k]? := by
  show (w.heap.push ob)[k]? = _
  simp [Array.getElem?_push, Nat.ne_of_lt hk]
theorem heap_alloc_at (ob : Obj) : (w.alloc ob).heap[w.heap.size]? = some ob := by
  show (w.heap.push ob)[w.heap.size]? = _
  simp
theorem heap_alloc_le (ob : Obj) : w.heap.size ≤ (w.alloc ob).heap.size := by
  show _ ≤ (w.heap.push ob).size
  simp
theorem run_newObj (ob : Obj) : (newObj ob).run P w = .ok w.heap.size (w.alloc ob) := rfl

/-- A new object in a new block. -/
theorem good_new (hr : Rep K ρ h w) (hn : ρ h.next = none) (ob : O) {room : Nat} {w' : World} (hk : ∀ k, k < w.heap.size → w'.heap[k]? = w.heap[k]?) (hs : w.heap.size ≤ w'.heap.size)
    (hor : ∀ ρ', Ren.le ρ ρ' → ORel ρ' w' ob ⟨w.heap.size, 0, room⟩) (h1 : w'.os = w.os) (h2 : w'.tape = w.tape) (h3 : w'.output = w.output) {c : C} {val : Value} {r : Result Next}
    (hc : Con (ρ.set h.next ⟨w.heap.size, 0, room⟩) c val) (hrun : r = .ok (.value val) w') (hro : ob.ro = false := by rfl) : Good K ρ h w (.w (.c c)) (h.new ob) r := by
  obtain ⟨a, b, c'⟩ := hr.new hn ob room hk hs (hor _ (Ren.le_set hn _)) h1 h2 h3 hro
  exact ⟨_, w', val, .inl hrun, c', New.set _ _ _, a, hc, b, Nat.le_succ _⟩

/-- A new row. -/
theorem orel_row {w' : World} {b : Nat} {cs : Array Value} {t : TypeId} {fr : Nat × Nat} (hb : w'.heap[b]? = some (.cells cs t fr)) (hfr : ∀ i, i < cs.size → ¬ (fr.1 ≤ i ∧ i < fr.2)) {sz : Nat} {els : List (List C)} (hw : ∀ x ∈ els, x.length = sz)
    (hc : ∀ (i : Nat) c, els.flatten[i]? = some c → ∃ v, cs[i]? = some v ∧ Con ρ c v) (ro : Bool) : ∀ ρ', Ren.le ρ ρ' → ORel ρ' w' (.row sz els ro) ⟨b, 0, cs.size⟩ := fun ρ' hle =>
  ⟨cs, t, fr, hb, rfl, fun _ => hfr, hw, fun k c hk => by
    obtain ⟨v, hv, hcon⟩ := hc k c (read1_flatten hw k c hk)
    exact ⟨v, by simpa using hv, hcon.mono hle⟩⟩

theorem all2_cells {l : List C} {cs : Array Value} (h : All2 (Con ρ) l cs.toList) (i : Nat) (c : C) (hc : l[i]? = some c) : ∃ v, cs[i]? = some v ∧ Con ρ c v := by
  obtain ⟨v, hv, hcon⟩ := h.get i c hc
  exact ⟨v, by simpa using hv, hcon⟩

theorem good_alloc (F : Fits K P) (hr : Rep K ρ h w) (hn : ρ h.next = none) {t : TypeId} (hop : o.op = .alloc t) (hv : opAlloc h (K.types.get t) = some (v, h')) : Good K ρ h w v h' ((execOp e o).run P w) := by
  unfold opAlloc at hv
  split at hv
  · rename_i ti hti
    cases hv
    obtain ⟨i, hi, his, _, z, hz, hzc⟩ := F.info t ti hti
    have hzl := F.zlen t ti hti
    refine good_new hr hn _ (w' := w.alloc (.cells z.cells t)) (fun k hk => heap_alloc_lt _ hk) (heap_alloc_le _) (orel_row (cs := z.cells) (t := t) (fr := (0, 0)) (heap_alloc_at _) (fun i _ => by simp) ?_ ?_ false) rfl rfl rfl (val := .pointer (some ⟨w.heap.size, 0, none⟩)) ⟨_, Ren.set_same _ _ _, by simp [Loc.at]⟩ ?_
    · intro x hx; simp at hx; subst hx; exact hzl
    · intro i c hc
      exact all2_cells (hzc ρ).cells i c (by simpa using hc)
    · simp [execOp, hop, Instr.alloc, zeroValue, typeInfo, hi, hz, newVar, newRow]
  · cases hv

theorem good_box (hr : Rep K ρ h w) (hn : ρ h.next = none) (he : EvR K ρ ts e) {t : TypeId} {x : Operand} (hop : o.op = .box t x) (hv : opBox h (evalW K ts x) = some (v, h')) : Good K ρ h w v h' ((execOp e o).run P w) := by
  unfold opBox at hv
  split at hv
  · rename_i a ha
    cases hv
    have hc := (he.w ha).cells
    refine good_new hr hn _ (w' := w.alloc (.cells (e x).cells t)) (fun k hk => heap_alloc_lt _ hk) (heap_alloc_le _) (orel_row (cs := (e x).cells) (t := t) (fr := (0, 0)) (heap_alloc_at _) (fun i _ => by simp) ?_ ?_ false) rfl rfl rfl (val := .pointer (some ⟨w.heap.size, 0, none⟩)) ⟨_, Ren.set_same _ _ _, by simp [Loc.at]⟩ ?_
    · intro y hy; simp at hy; subst hy; rfl
    · intro i c hc'
      exact all2_cells hc i c (by simpa using hc')
    · simp [execOp, hop, Instr.box, newVar, newRow]
  · cases hv

theorem good_makeMap (F : Fits K P) (hr : Rep K ρ h w) (hn : ρ h.next = none) (he : EvR K ρ ts e) {t : TypeId} {r : Option Operand} (hop : o.op = .makeMap t r) (hv : opMakeMapR K ts h t r = some (v, h')) : Good K ρ h w v h' ((execOp e o).run P w) := by
  have key : opMakeMap h = some (v, h') → (Instr.makeMap t (r.map e)).run P w = .ok (.map (some w.heap.size)) (w.alloc (.map #[] 0)) → Good K ρ h w v h' ((execOp e o).run P w) := by
    intro hv hrun
    cases hv
    refine good_new hr hn _ (room := 0) (w' := w.alloc (.map #[] 0)) (fun k hk => heap_alloc_lt _ hk) (heap_alloc_le _) ?_ rfl rfl rfl (val := .map (some w.heap.size)) ⟨_, Ren.set_same _ _ _, rfl⟩ ?_
    · intro ρ' _
      exact ⟨#[], 0, heap_alloc_at _, trivial, ⟨by simp, by simp, by simp⟩⟩
    · simp [execOp, hop, hrun]
  unfold opMakeMapR at hv
  split at hv
  · exact key hv (by rfl)
  · rename_i x
    unfold opMakeMapH at hv
    split at hv
    · rename_i kt k n hmt hx
      refine key hv ?_
      have hb : e x = .int k n := he.c hx
      unfold mapTI at hmt
      split at hmt
      · rename_i ti hti
        split at hmt
        · rename_i kt' et hd
          have hu := F.und t ti hti
          rw [hd] at hu
          simp [Instr.makeMap, run_underlying hu w, hb, asInt, asIntOf]
        · cases hmt
      · cases hmt
    · cases hv

theorem flatten_replicate_get {z : List C} {zs : Array Value} (hz : All2 (Con ρ) z zs.toList) (n : Nat) (i : Nat) (c : C) (hc : (List.replicate n z).flatten[i]? = some c) : i < n * z.length ∧ ∃ v, zs[i % z.length]? = some v ∧ Con ρ c v := by
  induction n generalizing i with
  | zero => simp at hc
  | succ n ih =>
    rw [List.replicate_succ, List.flatten_cons] at hc
    by_cases hi : i < z.length
    · rw [List.getElem?_append_left hi] at hc
      rw [Nat.mod_eq_of_lt hi]
      exact ⟨by rw [Nat.succ_mul]; omega, all2_cells hz i c hc⟩
    · rw [List.getElem?_append_right (by omega)] at hc
      obtain ⟨h1, h2⟩ := ih _ hc
      refine ⟨by rw [Nat.succ_mul]; omega, ?_⟩
      rw [Nat.mod_eq_sub_mod (by omega)]
      exact h2

theorem made_cells {z : List C} {zs : Array Value} (hz : All2 (Con ρ) z zs.toList) (n m : Nat) (hm : m = n * z.length) (i : Nat) (c : C) (hc : (List.replicate n z).flatten[i]? = some c) : ∃ v, ((Array.range m).map (zs[· % zs.size]!))[i]? = some v ∧ Con ρ c v := by
  obtain ⟨h1, v, hv, hcon⟩ := flatten_replicate_get hz n i c hc
  have hzl : z.length = zs.size := hz.length.trans Array.length_toList
  refine ⟨v, ?_, hcon⟩
  rw [hzl] at hv
  rw [Array.getElem?_map, Array.getElem?_range, if_pos (by omega)]
  simp only [Option.map_some, Option.some.injEq]
  rw [getElem!_def, hv]

theorem elemTI_some {t : TypeId} {te : TI} (h : elemTI K t = some te) : ∃ ti el, K.types.get t = some ti ∧ ti.desc = .slice el ∧ K.types.get el = some te := by
  unfold elemTI at h
  split at h
  · rename_i ti hti
    split at h
    · rename_i el hd
      exact ⟨ti, el, hti, hd, h⟩
    · cases h
  · cases h

theorem good_makeSlice (F : Fits K P) (hr : Rep K ρ h w) (hn : ρ h.next = none) (he : EvR K ρ ts e) {t : TypeId} {x y : Operand} (hop : o.op = .makeSlice t x y) (hv : opMakeSlice h (elemTI K t) (natOf (evalC K ts x)) (natOf (evalC K ts y)) = some (v, h')) : Good K ρ h w v h' ((execOp e o).run P w) := by
  unfold opMakeSlice at hv
  split at hv
  · rename_i te l c hte hl hc
    cases hb : (Nat.ble l c && Nat.ble (c * te.bytes) 1099511627776 && Nat.ble c 1099511627776) with
    | false => rw [hb] at hv; cases hv
    | true =>
      rw [hb] at hv
      simp only [cond_true, newSlice, Option.some.injEq, Prod.mk.injEq] at hv
      obtain ⟨rfl, rfl⟩ := hv
      simp only [Bool.and_eq_true] at hb
      have h1 := ble_le hb.1.1
      have h2 := ble_le hb.1.2
      have h3 := ble_le hb.2
      obtain ⟨ti, el, hti, hd, hel⟩ := elemTI_some hte
      have hu := F.und t ti hti
      rw [hd] at hu
      obtain ⟨i, hi, his, hib, z, hz, hzc⟩ := F.info el te hel
      obtain ⟨k1, hk1⟩ := he.nat hl
      obtain ⟨k2, hk2⟩ := he.nat hc
      have hzl := F.zlen el te hel
      have hrun := run_make (P := P) w t el i z hu hi hz k1 k2 (l : Int) (c : Int) (by omega) (by omega) (by rw [hib]; have : ((te.bytes : Int) * (c : Int)) = ((c * te.bytes : Nat) : Int) := by rw [Nat.mul_comm]; simp
                                                                                                             omega) (by omega)
      simp only [Int.toNat_natCast] at hrun
      have hsz : (madeCells z.cells (c * i.size)).size = c * i.size := size_madeCells _ _
      refine good_new hr hn _ (room := (madeCells z.cells (c * i.size)).size) (w' := w.alloc (.cells (madeCells z.cells (c * i.size)) el)) (fun k hk => heap_alloc_lt _ hk) (heap_alloc_le _) (orel_row (cs := madeCells z.cells (c * i.size)) (t := el) (fr := (0, 0)) (heap_alloc_at _) (fun i _ => by simp) ?_ ?_ false) rfl rfl rfl (val := .slice (some ⟨w.heap.size, 0, none⟩) l c) ⟨_, _, _, Ren.set_same _ _ _, rfl, .inr ⟨by simp [Loc.at], h1, ?_⟩⟩ ?_
      · intro y hy; rw [List.eq_of_mem_replicate hy]; exact hzl
      · intro j c' hc'
        exact made_cells (hzc ρ).cells c (c * i.size) (by rw [his, hzl]) j c' hc'
      · show 0 + 0 + c * te.size ≤ (madeCells z.cells (c * i.size)).size
        rw [hsz, his]; omega
      · simp only [execOp, hop, hk1, hk2]
        simp [hrun]
  · cases hv

/-- an element of a row is exchanged -/
theorem flatten_set {sz : Nat} : ∀ {els : List (List C)} (_ : ∀ x ∈ els, x.length = sz) (i : Nat) (x : List C), i < els.length → x.length = sz → (els.set i x).flatten = els.flatten.take (i * sz) ++ x ++ els.flatten.drop (i * sz + sz)
  | [], _, i, x, hi, _ => by simp at hi
  | y :: els, hw, 0, x, _, hx => by
    have hy := hw y (by simp)
    simp [hy]
  | y :: els, hw, i + 1, x, hi, hx => by
    have hy := hw y (by simp)
    have ih := flatten_set (els := els) (fun z hz => hw z (List.mem_cons_of_mem _ hz)) i x (by simpa using hi) hx
    have e1 : (i + 1) * sz = y.length + i * sz := by rw [Nat.succ_mul, hy]; omega
    simp only [List.set_cons_succ, List.flatten_cons, ih, e1]
    rw [List.take_append, Nat.add_assoc y.length, List.drop_append]
    simp [List.append_assoc, List.take_of_length_le, List.drop_of_length_le]

theorem flatten_length {sz : Nat} : ∀ {els : List (List C)} (_ : ∀ x ∈ els, x.length = sz), els.flatten.length = els.length * sz
  | [], _ => by simp
  | y :: els, hw => by
    rw [List.flatten_cons, List.length_append, flatten_length (fun z hz => hw z (by simp [hz])), hw y (by simp), List.length_cons, Nat.succ_mul, Nat.add_comm]

theorem fillEls_fill {sz : Nat} : ∀ (ps : List (Nat × W)) (els r : List (List C)), (∀ x ∈ els, x.length = sz) → fillEls sz ps els = some r → (∀ x ∈ r, x.length = sz) ∧ r.length = els.length ∧ fillArr sz ps els.flatten = some r.flatten
  | [], els, r, hw, h => by simp [fillEls] at h; subst h; exact ⟨hw, rfl, rfl⟩
  | (i, x) :: ps, els, r, hw, h => by
    simp only [fillEls] at h
    cases hb : (Nat.beq x.cells.length sz && Nat.blt i els.length) with
    | false => rw [hb] at h; cases h
    | true =>
      rw [hb] at h
      simp only [cond_true] at h
      have hb' := hb
      simp only [Bool.and_eq_true] at hb'
      have hl := Nat.eq_of_beq_eq_true hb'.1
      have hi := blt_lt hb'.2
      have hw' : ∀ y ∈ els.set i x.cells, y.length = sz := fun y hy => by
        rcases List.mem_or_eq_of_mem_set hy with h1 | h1
        · exact hw y h1
        · rw [h1]; exact hl
      obtain ⟨h1, h2, h3⟩ := fillEls_fill ps _ r hw' h
      refine ⟨h1, by simpa using h2, ?_⟩
      rw [flatten_set hw i x.cells hi hl] at h3
      simp only [fillArr, fillPart]
      have hfl := flatten_length hw
      have hble : Nat.ble (i * sz + sz) els.flatten.length = true := by
        rw [Nat.ble_eq, hfl, ← Nat.succ_mul]
        exact Nat.mul_le_mul_right _ hi
      have hbeq : Nat.beq x.cells.length sz = true := hb'.1
      rw [hbeq, hble]
      simpa using h3

theorem good_buildSlice (F : Fits K P) (hr : Rep K ρ h w) (hn : ρ h.next = none) (he : EvR K ρ ts e) {t : TypeId} {len : Nat} {parts : Array (Nat × Operand)} (hop : o.op = .buildSlice t len parts) (hv : opBuildSlice h len (elemTI K t) (evalParts K ts parts.toList) = some (v, h')) : Good K ρ h w v h' ((execOp e o).run P w) := by
  unfold opBuildSlice at hv
  split at hv
  · rename_i te ps hte hps
    cases hb : Nat.ble (len * te.size) 16777216 with
    | false => rw [hb] at hv; cases hv
    | true =>
      rw [hb] at hv
      simp only [cond_true] at hv
      unfold newSlice at hv
      split at hv
      · rename_i els hels
        cases hv
        obtain ⟨ti, el, hti, hd, hel⟩ := elemTI_some hte
        have hu := F.und t ti hti
        rw [hd] at hu
        obtain ⟨i, hi, his, hib, z, hz, hzc⟩ := F.info el te hel
        have hzl := F.zlen el te hel
        have hw0 : ∀ x ∈ List.replicate len te.zero.cells, x.length = te.size := fun x hx => by rw [List.eq_of_mem_replicate hx]; exact hzl
        obtain ⟨hw, hlen, hfill⟩ := fillEls_fill ps _ els hw0 hels
        have hz0 : All2 (Con ρ) (List.replicate len te.zero.cells).flatten ((Array.range (len * i.size)).map (z.cells[· % z.cells.size]!)).toList := by
          refine All2.of_get ?_ (fun j a b ha hb => ?_)
          · rw [flatten_length hw0]; simp [his]
          · obtain ⟨v, hv, hc⟩ := made_cells (hzc ρ).cells len (len * i.size) (by rw [his, hzl]) j a ha
            rw [Array.getElem?_toList, hv] at hb
            cases hb
            exact hc
        obtain ⟨cells', h1, h2⟩ := fill_run (ρ := ρ) (place := fun i => some (i * te.size, te.size)) (fillArr te.size) (fun _ => rfl) (fun i x l z r hh => by
            simp only [fillArr] at hh
            split at hh
            · cases hh
            · rename_i z' hz'
              exact ⟨_, _, z', rfl, hz', hh⟩) ps _ _ els.flatten _ hfill (he.parts hps) hz0
        have hsize : cells'.size = len * te.size := by
          have hh : els.flatten.length = cells'.size := h2.length.trans Array.length_toList
          rw [← hh, flatten_length hw, hlen, List.length_replicate]
        have hrun : (Instr.buildSlice t len (parts.map fun (i, x) => (i, e x))).run P w = .ok (.slice (some ⟨w.heap.size, 0, none⟩) len len) (w.alloc (.cells cells' el)) := by
          have hpm : (parts.map fun (i, x) => (i, e x)).toList = parts.toList.map fun p => (p.1, e p.2) := by simp
          have h1' : Instr.fill (fun j => some (j * i.size, i.size)) ((Array.range (len * i.size)).map (z.cells[· % z.cells.size]!)) (parts.map fun (i, x) => (i, e x)).toList = some cells' := by
            rw [hpm, his]
            rw [his] at h1
            exact h1
          by_cases hzero : len * i.size = 0
          · have hbig : ¬ len * i.size > 2 ^ 24 := by omega
            have hz' : (Array.range (len * i.size)).map (z.cells[· % z.cells.size]!) = (Array.range (len * i.size)).map ((#[] : Array Value)[· % (#[] : Array Value).size]!) := by rw [hzero]; simp
            rw [hz'] at h1'
            simp only [Instr.buildSlice, Sem.run_bind, run_underlying hu w, Result.andThen_ok, sizeOf, typeInfo, run_program, hi, Sem.run_pure, if_neg hbig, if_pos hzero, h1', newRow, run_newObj]
          · exact run_buildSlice w t el len _ cells' i z hu hi hz (by have := ble_le hb; rw [his]; omega) hzero h1'
        refine good_new hr hn _ (room := cells'.size) (w' := w.alloc (.cells cells' el)) (fun k hk => heap_alloc_lt _ hk) (heap_alloc_le _) (orel_row (cs := cells') (t := el) (fr := (0, 0)) (heap_alloc_at _) (fun i _ => by simp) hw ?_ false) rfl rfl rfl (val := .slice (some ⟨w.heap.size, 0, none⟩) len len) ⟨_, _, _, Ren.set_same _ _ _, rfl, .inr ⟨by simp [Loc.at], Nat.le_refl _, ?_⟩⟩ ?_
        · intro j c hc
          exact all2_cells h2 j c hc
        · show 0 + 0 + len * te.size ≤ cells'.size
          rw [hsize]; omega
        · simp only [execOp, hop]
          rw [Sem.run_bind, hrun]
          rfl
      · cases hv
  · cases hv

end
end Go.Ev
