/- What the evaluator knows by heart: slices.Sorted(maps.Keys(m)) of a map whose keys are ints. -/
import Derived.Test.YtkpiafihfmafkaaGreatDoorEvSort
namespace Go.Ev
open Go.RowKit Go.Maps

section
variable {K : Cfg} {P : Program} {ρ : Ren} {h h' : H} {w w' : World}

/-- A new object in whatever new block. -/
theorem Rep.newAt (hr : Rep K ρ h w) (hn : ρ h.next = none) (o : O) (g room : Nat) (hg : w.heap.size ≤ g) (hk : ∀ k, k < w.heap.size → w'.heap[k]? = w.heap[k]?) (hs : w.heap.size ≤ w'.heap.size)
    (hor : ORel (ρ.set h.next ⟨g, 0, room⟩) w' o ⟨g, 0, room⟩) (h1 : w'.os = w.os) (h2 : w'.tape = w.tape) (h3 : w'.output = w.output) (hro : o.ro = false := by rfl) :
    Aft K ρ h w (ρ.set h.next ⟨g, 0, room⟩) (h.new o) w' := by
  have hle : Ren.le ρ (ρ.set h.next ⟨g, 0, room⟩) := Ren.le_set hn _
  have hold : ∀ m x, m ≠ h.next → (h.new o).get m = some x → ∃ lm, ρ m = some lm ∧ ORel ρ w x lm := fun m x hm hx => by
    rw [H.get_new, if_neg hm] at hx
    exact hr.obj m x hx
  refine ⟨hle, New.set _ _ _, ⟨fun g n hg => ?_, fun m x hx => ?_, fun m m' x x' lm lm' hne hx hx' hlm hlm' => ?_⟩, ⟨h1, h2, h3, hs, fun k hk' _ => hk k hk', fun k hm => ?_, fun m x hx hxr => ?_⟩, Nat.le_succ _⟩
  · obtain ⟨r, hr'⟩ := hr.glob g n hg
    exact ⟨r, hle _ _ hr'⟩
  · by_cases e : m = h.next
    · subst e
      rw [H.get_new, if_pos rfl] at hx
      cases hx
      exact ⟨_, Ren.set_same _ _ _, hor⟩
    · obtain ⟨lm, hlm, hrm⟩ := hold m x e hx
      exact ⟨lm, hle _ _ hlm, (hrm.mono hle).congr (hk _ hrm.lt)⟩
  · by_cases e : m = h.next
    · subst e
      rw [Ren.set_same] at hlm
      cases hlm
      obtain ⟨l2, hl2, hr2⟩ := hold m' x' (fun e => hne e.symm) hx'
      rw [Ren.set_ne _ _ (fun e => hne e.symm), hl2] at hlm'
      cases hlm'
      have := hr2.lt
      simp only
      omega
    · obtain ⟨l1, hl1, hr1⟩ := hold m x e hx
      rw [Ren.set_ne _ _ e, hl1] at hlm
      cases hlm
      by_cases e' : m' = h.next
      · subst e'
        rw [Ren.set_same] at hlm'
        cases hlm'
        have := hr1.lt
        simp only
        omega
      · obtain ⟨l2, hl2, hr2⟩ := hold m' x' e' hx'
        rw [Ren.set_ne _ _ e', hl2] at hlm'
        cases hlm'
        rw [H.get_new, if_neg e] at hx
        rw [H.get_new, if_neg e'] at hx'
        exact hr.inj m m' x x' _ _ hne hx hx' hl1 hl2
  · obtain ⟨m, x, lm, hx, hxr, hlm, hkm⟩ := hm
    by_cases e : m = h.next
    · subst e
      rw [Ren.set_same] at hlm
      cases hlm
      exact .inl (by simp only at hkm; omega)
    · rw [H.get_new, if_neg e] at hx
      rw [Ren.set_ne _ _ e] at hlm
      exact .inr ⟨m, x, lm, hx, hxr, hlm, hkm⟩
  · rw [H.get_new] at hx
    split at hx
    · cases hx
      rw [hro] at hxr
      cases hxr
    · exact hx

/-- Nothing new is known; what lay there stays. -/
theorem Rep.stay (hr : Rep K ρ h w) (hk : ∀ k, k < w.heap.size → w'.heap[k]? = w.heap[k]?) (hs : w.heap.size ≤ w'.heap.size) (h1 : w'.os = w.os) (h2 : w'.tape = w.tape) (h3 : w'.output = w.output) : Aft K ρ h w ρ h w' := by
  refine ⟨Ren.le.refl _, New.refl _ _ _, ⟨hr.glob, fun m x hx => ?_, hr.inj⟩, ⟨h1, h2, h3, hs, fun k hk' _ => hk k hk', fun k hm => .inr hm, fun m x hx _ => hx⟩, Nat.le_refl _⟩
  obtain ⟨lm, hlm, hrm⟩ := hr.obj m x hx
  exact ⟨lm, hlm, hrm.congr (hk _ hrm.lt)⟩

/-! ### Keys -/
theorem insI_perm (a : Int) : ∀ l : List Int, (insI a l).Perm (a :: l)
  | [] => List.Perm.refl _
  | b :: l => by
    unfold insI
    split
    · exact List.Perm.refl _
    · exact ((insI_perm a l).cons b).trans (List.Perm.swap a b l)
theorem insI_sorted (a : Int) : ∀ l : List Int, l.Pairwise (· ≤ ·) → (insI a l).Pairwise (· ≤ ·)
  | [], _ => by simp [insI]
  | b :: l, hl => by
    unfold insI
    have hb := List.pairwise_cons.1 hl
    split
    · rename_i hab
      refine List.pairwise_cons.2 ⟨fun x hx => ?_, hl⟩
      rcases List.mem_cons.1 hx with rfl | hx
      · exact hab
      · exact Int.le_trans hab (hb.1 x hx)
    · rename_i hab
      refine List.pairwise_cons.2 ⟨fun x hx => ?_, insI_sorted a l hb.2⟩
      rcases List.mem_cons.1 ((insI_perm a l).mem_iff.1 hx) with rfl | hx
      · omega
      · exact hb.1 x hx

/-- An entry's number. -/
def keyNum (e : MapEntry) : Int := match e.key with
  | .int _ n => n
  | _ => 0

theorem sortedKeys_of : ∀ (es : List (W × W)) (l : List Int) (xs : List MapEntry), sortedKeys es = some l → All2 (ConE ρ) es xs →
    l.Pairwise (· ≤ ·) ∧ l.Perm (xs.map keyNum) ∧ ∀ e ∈ xs, ∃ a : Int, e.key = .int .i64 a ∧ keyFits a = true
  | [], l, [], hl, _ => by
    cases hl
    exact ⟨List.Pairwise.nil, List.Perm.refl _, fun e he => by cases he⟩
  | [], _, _ :: _, _, h => h.elim
  | _ :: _, _, [], _, h => h.elim
  | (k, v) :: es, l, x :: xs, hl, hx => by
    unfold sortedKeys at hl
    split at hl
    · rename_i e
      cases e
    · rename_i a v' es' e
      cases e
      cases hf : keyFits a with
      | false => rw [hf] at hl; cases hl
      | true =>
        rw [hf] at hl
        simp only [cond_true] at hl
        split at hl
        · cases hl
        · rename_i r hr
          cases hl
          obtain ⟨p1, p2, p3⟩ := sortedKeys_of es r xs hr hx.2
          have hk : x.key = .int .i64 a := hx.1.1
          refine ⟨insI_sorted a r p1, ?_, fun e he => ?_⟩
          · refine (insI_perm a r).trans ?_
            rw [List.map_cons]
            have : keyNum x = a := by simp [keyNum, hk]
            rw [this]
            exact p2.cons a
          · rcases List.mem_cons.1 he with rfl | he
            · exact ⟨a, hk, hf⟩
            · exact p3 e he
    · cases hl

theorem insert_perm {H : Type} (x : Lit × DataW H) : ∀ l : List (Lit × DataW H), (DataW.insert x l).Perm (x :: l)
  | [] => List.Perm.refl _
  | y :: r => by
    unfold DataW.insert
    split
    · exact List.Perm.refl _
    · exact ((insert_perm x r).cons y).trans (List.Perm.swap x y r)
theorem foldr_insert_perm {H : Type} : ∀ l : List (Lit × DataW H), (l.foldr DataW.insert []).Perm l
  | [] => List.Perm.refl _
  | x :: l => (insert_perm x _).trans ((foldr_insert_perm l).cons x)

/-- A map keyed by ints, in the maps' kit's word. -/
theorem owns_of (P : Program) (k : TypeId) (hk : P.underlying k = some (.int .i64)) {b clock : Nat} {xs : Array MapEntry} (hb : w.heap[b]? = some (.map xs clock)) (hborn : Born xs.toList clock) (hn : xs.size ≤ 1000000)
    (hkeys : ∀ e ∈ xs.toList, ∃ a : Int, e.key = .int .i64 a ∧ keyFits a = true) :
    ∃ D : DataW Nat, w.ownsMap P k (fun _ => some (.nil, [])) b xs.size D ∧ Maps.size D = xs.size ∧ (Go.intKeys D).Perm (xs.toList.map keyNum) := by
  have hrd : ∀ e ∈ xs.toList, WideElems.rd P k (fun _ => some ((.nil, []) : DataW Nat × List MemPlace)) e = some (.int .i64 (keyNum e), .nil) := by
    intro e he
    obtain ⟨a, ha, hf⟩ := hkeys e he
    have hwf : (Lit.int .i64 a).wf = true := by
      simp [keyFits] at hf
      simp [Lit.wf, IntKind.min, IntKind.max, IntKind.signed, IntKind.bits]
      omega
    simp [WideElems.rd, ha, keyOf, hk, mapKey, hwf, keyNum]
  have hrg : xs.toList.map (WideElems.rg P k (fun _ => some ((.nil, []) : DataW Nat × List MemPlace))) = xs.toList.map (fun e => (Lit.int .i64 (keyNum e), (.nil : DataW Nat))) := by
    apply List.map_congr_left
    intro e he
    simp [WideElems.rg, hrd e he]
  have hp := foldr_insert_perm (xs.toList.map (fun e => (Lit.int .i64 (keyNum e), (.nil : DataW Nat))))
  have hml : xs.size ≤ maxLen := Nat.le_trans hn (by decide)
  refine ⟨_, ⟨xs, clock, hb, ⟨hml, ⟨hborn.old, ?_⟩, fun x hx => ⟨_, hrd x hx⟩⟩, Nat.le_refl _, rfl⟩, ?_, ?_⟩
  · refine ⟨List.pairwise_map.2 (hborn.up.imp fun h e => ?_), List.pairwise_map.2 (hborn.apart.imp_of_mem fun {x y} hx hy h e => ?_)⟩
    · rw [e] at h
      exact Nat.lt_irrefl _ h
    · obtain ⟨p, hp, _⟩ := hkeys x hx
      exact h _ _ hp (e.symm.trans hp)
  · rw [hrg, Maps.size_eq, hp.length_eq, List.length_map, Array.length_toList]
  · rw [hrg]
    refine (hp.map _).trans ?_
    rw [List.map_map]
    exact List.Perm.refl _

/-! ### The functions -/
/-- slices.Sorted. -/
structure SortC (P : Program) (f : FuncId) : Prop where
  call : Callable P f
  lay : ∃ r : Go.Shelf.Ren, Go.Proofs.SlLaysZI.n6 P r ∧ r.f 6 = f ∧ Go.Proofs.AnyZI.SortsIn P r Fence.wide 3 ∧ ∀ args w, (callFunc (r.f 9) args).run P w = .ok (.enter (r.f 9) args) w
/-- The iterator that maps.Keys makes. -/
structure KeysC (P : Program) (g : FuncId) : Prop where
  lay : ∃ r : Go.Shelf.Ren, Go.Proofs.SlLaysZI.n10 P r ∧ r.f 10 = g ∧ ∀ args w, (callFunc g args).run P w = .ok (.enter g args) w

/-- What slices.Sorted gives. -/
theorem sorted_of {f g : FuncId} (c : SortC P f) (eg : ∀ args w, (callFunc g args).run P w = .ok (.enter g args) w) {lb : Array Value} {S : List Int → Prop} {N : Nat} (hN : N ≤ 1000000) (hs : SeqGives Fence.wide 1 P g lb Go.encZ S N w) {r : Option Nat} {m : Nat} :
    CallsIn (Wd r) m P f #[.func (.func g) #[] lb] w fun e w' => ∃ (v : Value) (ss : List Int) (t : TypeId), e = .returned v ∧ S ss ∧
      w'.ownsRow w.heap.size t 1 v ss.length ((ss.mergeSort (fun x y => decide (x ≤ y))).map Go.encZ) ∧ (v = .slice none 0 0 ↔ ss = []) ∧ Below w.heap.size w w' := by
  obtain ⟨q, L, rfl, hsort, e9⟩ := c.lay
  have hml : N ≤ maxLen := Nat.le_trans hN (by decide)
  refine callsIn_wd (callsIn_wide.1 ((Go.Proofs.AnyZI.sorted_in L Fence.wide 4 trivial trivial trivial trivial rfl (Nat.le_refl _) hsort e9 g lb trivial eg S N hml (by omega) w hs).mono ?_))
  rintro e w' ⟨v, ss, he, h1, h2, h3, h4⟩
  exact ⟨v, ss, _, he, h1, h2, h3, h4⟩

theorem sort_eq {l ss : List Int} (hl : l.Pairwise (· ≤ ·)) (hp : ss.Perm l) : ss.mergeSort (fun x y => decide (x ≤ y)) = l := by
  refine List.Perm.eq_of_pairwise (le := (· ≤ ·)) (fun a b _ _ h1 h2 => Int.le_antisymm h1 h2) ?_ hl ((List.mergeSort_perm _ _).trans hp)
  exact (List.pairwise_mergeSort (le := fun x y : Int => decide (x ≤ y)) (fun a b c h1 h2 => by simp at *; omega) (fun a b => by simp; omega) ss).imp (fun h => by simpa using h)

/-- Sorted keys, a new row. -/
theorem sorted_row {l ss : List Int} (hl : l.Pairwise (· ≤ ·)) (hp : ss.Perm l) (hne : l ≠ []) (hr : Rep K ρ h w) (hd : Dom ρ h.next) {v : Value} {t : TypeId}
    (ho : w'.ownsRow w.heap.size t 1 v ss.length ((ss.mergeSort (fun x y => decide (x ≤ y))).map Go.encZ)) (hb : Below w.heap.size w w') :
    PostV K ρ h w (.w (.c (.slice h.next 0 l.length 1))) (h.new (.row 1 (l.map fun i => [.int .i64 i]) false)) (.returned v) w' := by
  rw [sort_eq hl hp] at ho
  have hlen := hp.length_eq
  rcases ho.2 with ⟨_, h0⟩ | ⟨g, cap, cur, rfl, hg, hh, h1, h2, h3, h4⟩
  · exact absurd (List.eq_nil_of_length_eq_zero (hlen ▸ h0)) hne
  · rw [hlen] at h1 h4 ⊢
    refine ⟨_, _, rfl, hr.newAt (hd _ (Nat.le_refl _)) _ g cap hg hb.block hb.size ?_ hb.os hb.tape hb.output, ?_⟩
    · refine ⟨cur, t, (0, 0), hh, by simpa using h3, fun _ i _ hx => by simp at hx, fun x hx => ?_, fun k c hc => ?_⟩
      · obtain ⟨i, _, rfl⟩ := List.mem_map.1 hx
        rfl
      · unfold read1 at hc
        simp only [Nat.div_one, Nat.mod_one] at hc
        split at hc
        · cases hc
        · rename_i e he
          rw [List.getElem?_map] at he
          cases hi : l[k]? with
          | none => rw [hi] at he; cases he
          | some i =>
            rw [hi] at he
            cases he
            cases hc
            refine ⟨.int .i64 i, ?_, rfl⟩
            have hk : k < l.length := (List.getElem?_eq_some_iff.1 hi).1
            have : (cur.toList.take (l.length * 1))[k]? = some (Go.encZ i) := by rw [h4, List.getElem?_map, hi]; rfl
            rw [List.getElem?_take_of_lt (by omega), Array.getElem?_toList] at this
            simpa using this
    · exact ⟨_, _, cap, Ren.set_same _ _ _, rfl, .inr ⟨rfl, h1, by simp⟩⟩

theorem sorted_ok {f : FuncId} (c : SortC P f) (kc : ∀ g, K.keys.contains g = true → KeysC P g) {args : List W} {v : V} (hv : opSorted K h args = some (.val v h')) {vals : List Value} {r : Option Nat} {m : Nat} (hr : Rep K ρ h w) (hd : Dom ρ h.next) (ha : All2 (ConW ρ) args vals) : CallsIn (Wd r) m P f vals.toArray w (PostV K ρ h w v h') := by
  unfold opSorted at hv
  split at hv
  · rename_i g a off
    cases hb : K.keys.contains g with
    | false => rw [hb] at hv; cases hv
    | true =>
      rw [hb] at hv
      simp only [cond_true] at hv
      split at hv
      · rename_i sz els ro ho
        obtain ⟨u, rfl, hu⟩ := all2_one ha
        obtain ⟨fa, ca, rfl, q1, q2⟩ := hu
        have hfa : fa = #[] := by
          cases hfl : fa.toList with
          | nil => exact Array.toList_eq_nil_iff.1 hfl
          | cons x y => rw [hfl] at q1; exact q1.elim
        subst hfa
        obtain ⟨cv, hcv, hcp⟩ := all2_one q2
        obtain ⟨la, hla, rfl⟩ := hcp
        have hca : ca = #[.pointer (some (la.at off))] := by
          apply Array.toList_inj.1
          rw [hcv]
        subst hca
        obtain ⟨la', hla', cs, t, fr, hcell, hsz, hfr, hw, hrd⟩ := hr.obj a _ ho
        rw [hla] at hla'
        cases hla'
        obtain ⟨rk, LK, rfl, eg⟩ := (kc g hb).lay
        have hBm : la.blk < w.heap.size := (Array.getElem?_eq_some_iff.1 hcell).1
        unfold sortedOf at hv
        split at hv
        · -- a nil map
          rename_i hc1
          cases hv
          obtain ⟨cv, hcv1, hcv2⟩ := hrd off _ hc1
          have e : cv = .map none := hcv2
          subst e
          have hm : w.cell? (la.at off) = some (.map none) := by simp [World.cell?, Loc.at, hcell, hcv1]
          refine (sorted_of c eg (N := 0) (by omega) (Go.Proofs.EvKeys.gives_nil LK Fence.wide 1 trivial rfl la.blk (la.base + off) w hBm hm)).mono ?_
          rintro e w' ⟨v, ss, t, rfl, rfl, h2, h3, h4⟩
          refine ⟨ρ, v, rfl, hr.stay h4.block h4.size h4.os h4.tape h4.output, ?_⟩
          rw [h3.2 rfl]
          rfl
        · rename_i n hc1
          split at hv
          · rename_i es hes
            obtain ⟨cv, hcv1, lm, hlm, rfl⟩ := hrd off _ hc1
            have hm : w.cell? (la.at off) = some (.map (some lm.blk)) := by simp [World.cell?, Loc.at, hcell, hcv1]
            obtain ⟨lm', hlm', xs, clock, hxb, hxs, hborn⟩ := hr.obj n _ hes
            rw [hlm] at hlm'
            cases hlm'
            unfold sortedRow at hv
            split at hv
            · rename_i hsk
              cases hv
              obtain ⟨p1, p2, p3⟩ := sortedKeys_of es [] xs.toList hsk hxs
              have hx0 : xs.toList = [] := by
                have := p2.length_eq
                simp at this
                simpa using this.symm
              have hsz0 : xs.size = 0 := by rw [← Array.length_toList, hx0]; rfl
              obtain ⟨D, d1, d2, d3⟩ := owns_of P (rk.t 26) LK.t26 hxb hborn (by omega) p3
              refine (sorted_of c eg (N := Maps.size D) (by omega) (Go.Proofs.EvKeys.gives LK Fence.wide 1 trivial rfl (Nat.le_refl _) la.blk (la.base + off) lm.blk _ D w hBm hm d1)).mono ?_
              rintro e w' ⟨v, ss, t, rfl, hss, h2, h3, h4⟩
              refine ⟨ρ, v, rfl, hr.stay h4.block h4.size h4.os h4.tape h4.output, ?_⟩
              have hs0 : ss = [] := by
                have := (hss.trans d3).length_eq
                rw [hx0] at this
                exact List.eq_nil_of_length_eq_zero this
              rw [h3.2 hs0]
              rfl
            · rename_i l hne hsk
              cases hb2 : Nat.ble l.length 1000000 with
              | false => rw [hb2] at hv; cases hv
              | true =>
                rw [hb2] at hv
                cases hv
                have hle := ble_le hb2
                obtain ⟨p1, p2, p3⟩ := sortedKeys_of es l xs.toList hsk hxs
                have hll := p2.length_eq
                rw [List.length_map] at hll; have hxl : xs.toList.length = xs.size := Array.length_toList
                obtain ⟨D, d1, d2, d3⟩ := owns_of P (rk.t 26) LK.t26 hxb hborn (by omega) p3
                refine (sorted_of c eg (N := Maps.size D) (by omega) (Go.Proofs.EvKeys.gives LK Fence.wide 1 trivial rfl (Nat.le_refl _) la.blk (la.base + off) lm.blk _ D w hBm hm d1)).mono ?_
                rintro e w' ⟨v, ss, t, rfl, hss, h2, h3, h4⟩
                exact sorted_row p1 ((hss.trans d3).trans p2.symm) (fun e => hne e) hr hd h2 h4
            · cases hv
          · cases hv
        · cases hv
      · cases hv
  · cases hv

end
end Go.Ev
