/- names.Split: what it tells of every path of at most 2^63 bytes. -/
import Derived.Test.YtjpmekapkjkkbaaTell
import Derived.Maps.AppendAt
namespace Go.Proofs.Ytjpmekapkjkkbaa
open Go.RowKit Go.Shelf Go.Lib

attribute [local go_sem] Oper.semAt_some

theorem info9 : (Try.prog.info? 9).map (fun i => (i.zero, i.size, i.bytes)) = some (some (.string ⟨#[]⟩), 1, 16) := by kernel_rfl

/-- What is handed back: names in a row of the call's own, and a number; what lay lies as it lay. -/
def TellsNames (w : World) (l : List (List UInt8)) (n : Int) (e : Ending) (w' : World) : Prop :=
  ∃ v, e = .returned (.tuple #[v, .int .i64 n]) ∧ w'.ownsRow w.heap.size 9 1 v l.length (l.map S) ∧ (v = .slice none 0 0 ↔ l = []) ∧ Below w.heap.size w w'

theorem only_of_below {a w : World} (h : Below a.heap.size a w) (row : Option Nat) : a.grownBy w row := ⟨h.os, h.tape, h.output, h.size, fun i hi _ => h.block i hi⟩

theorem row_below {W W' : World} {base : Nat} {e : TypeId} {size : Nat} {v : Value} {n : Nat} {xs : List Value} (h : W.ownsRow base e size v n xs) (hb : Below W.heap.size W W') : W'.ownsRow base e size v n xs :=
  h.kept (only_of_below hb none) (by by_cases hn : v.ownBlock = none; exact .inl hn; exact .inr hn)

set_option maxRecDepth 100000 in
set_option maxHeartbeats 2000000 in
theorem split_walk (path : ByteArray) (w : World) (h1 : 1 ≤ path.size) (h2 : path.size ≤ 512) (h3 : (path[0]'(by omega)).toNat = 47) :
    Calls Try.prog 14 #[.string path] w (TellsNames w (splitR path.data.toList).1 (splitR path.data.toList).2) := by
  refine (callsIn_wide (n := 5)).1 ?_
  obtain ⟨i0, hi, hz0, hz1, hz2⟩ := info_parts info9
  have d1 : decide ((512 : Int) < (path.size : Int)) = false := decide_eq_false (by omega)
  have hz := Lib.size_eq path
  have d2 : path.toList.isEmpty = false := by
    rw [Lib.toList_data]
    cases h : path.data.toList with
    | nil => rw [h, List.length_nil] at hz; omega
    | cons _ _ => rfl
  have HZ := Lib.hid hz
  clear hz
  refine callsIn_of_wp_marks Try.func14 rfl trivial ?_ rfl
  simp only [Try.ntmps14, List.size_toArray, List.length_cons, List.length_nil, Nat.reduceAdd, Nat.reduceSub, Array.replicate_succ, Array.replicate_zero, List.push_toArray, List.append_toArray, List.nil_append, List.cons_append]
  gi_wp2_with (refine ⟨trivial, ?_⟩; gi_at_call 21; refine (tell_any _ _ _).mono ?_; rintro e w' ⟨rfl, rfl⟩)
  have HH : Hid (splitR path.data.toList = if (tellL path.data.toList).all mayB = false then ([], 290) else if 16 < (tellL path.data.toList).length then ([], 4) else (tellL path.data.toList, 0)) := by
    have hz := HZ.out
    have hh : path.data.toList.head? = some 47 := by
      rw [List.head?_eq_getElem?, Lib.data_getElem? path 0 (by omega)]
      exact congrArg some (UInt8.toNat_inj.1 h3)
    show splitR _ = _
    unfold splitR
    rw [if_neg (by omega), if_neg (by rw [hh]; simp)]
  have hN : (tellL path.data.toList).length ≤ 513 := by
    have hz := HZ.out
    unfold tellL
    split
    · simp
    · have := pieces_length (path.data.toList.drop 1)
      rw [List.length_drop] at this
      omega
  have b0 := Boxed.new w 22 (.slice none 0 0)
  have b1 := Boxed.new (w.alloc (.cells #[.slice none 0 0] 22)) 23 (.int .i64 0)
  have b2 := Boxed.new ((w.alloc (.cells #[.slice none 0 0] 22)).alloc (.cells #[.int .i64 0] 23)) 22 (.slice none 0 0)
  have b3 := Boxed.new (((w.alloc (.cells #[.slice none 0 0] 22)).alloc (.cells #[.int .i64 0] 23)).alloc (.cells #[.slice none 0 0] 22)) 9 (.string path)
  simp only [World.size_alloc] at b1 b2 b3
  have hB0 : Below w.heap.size w ((((w.alloc (.cells #[.slice none 0 0] 22)).alloc (.cells #[.int .i64 0] 23)).alloc (.cells #[.slice none 0 0] 22)).alloc (.cells #[.string path] 9)) :=
    ((((Below.refl _ w).alloc (Nat.le_refl _) _).alloc (by simp) _).alloc (by simp; omega) _).alloc (by simp; omega) _
  refine wpIn_rangeFunc_ownG rfl (by omega) (gf := 26) (lb := #[.pointer (some ⟨w.heap.size + 1 + 1 + 1, 0, none⟩)]) rfl trivial (enters_of Try.func26 (by kernel_rfl) rfl)
    (tell_stops _ (by omega) (w.heap.size + 1 + 1 + 1) w.heap.size path h1 (by omega) _ (by simp) b3.cell) belowK_t (belowK_b (by simp; omega)) (Below.refl _ _) (fun _ => rfl)
    (fun pre W => (pre.all mayB = true ∧ Boxed W w.heap.size 22 (.slice none 0 0) ∧ Boxed W (w.heap.size + 1) 23 (.int .i64 0) ∧ (∃ v, Boxed W (w.heap.size + 1 + 1) 22 v ∧ W.ownsRow w.heap.size 9 1 v pre.length (pre.map S) ∧ (v = .slice none 0 0 ↔ pre = []))) ∧ Below w.heap.size w W)
    (fun c pre W => (c = .ret ∧ pre.all mayB = false ∧ Boxed W w.heap.size 22 (.slice none 0 0) ∧ Boxed W (w.heap.size + 1) 23 (.int .i64 290)) ∧ Below w.heap.size w W)
    (OwnFrom.and (OwnFrom.and (ownFrom_pure _ _) (OwnFrom.and (Own.from (boxed_own _ _ _) _) (OwnFrom.and (Own.from (boxed_own _ _ _) _) (Own.from (holdsRow_own w.heap.size (w.heap.size + 1 + 1) 22 9 1 (fun pre => pre.length) (fun pre => pre.map S) (fun pre v => v = .slice none 0 0 ↔ pre = [])) _)))) (ownFrom_below (Nat.le_refl _) (by simp; omega)))
    (fun c => OwnFrom.and (OwnFrom.and (ownFrom_pure _ _) (OwnFrom.and (ownFrom_pure _ _) (OwnFrom.and (Own.from (boxed_own _ _ _) _) (Own.from (boxed_own _ _ _) _)))) (ownFrom_below (Nat.le_refl _) (by simp; omega)))
    ⟨⟨rfl, ((b0.alloc _).alloc _).alloc _, (b1.alloc _).alloc _, _, b2.alloc _, World.ownsRow_nil _ _ _ _, by simp⟩, hB0⟩
    (fun x => { tmps := #[.string path, undef, .pointer (some ⟨w.heap.size, 0, none⟩), .pointer (some ⟨w.heap.size + 1, 0, none⟩), .pointer (some ⟨w.heap.size + 1 + 1, 0, none⟩), S x, .string path, .int .i64 path.size, .bool false, .string path, .bool false, .bool false, .string path, .int .u8 47, .bool false, .bool false, .string path,
      .func (.func 26) #[] #[.pointer (some ⟨w.heap.size + 1 + 1 + 1, 0, none⟩)], S x, undef, undef, undef, undef, undef, undef, undef, undef, undef, undef, undef], defers := [] }) ?assign ?body ?done ?stop
  case assign =>
    intro l x W K hK
    gi_wp2
    exact hK
  case body =>
    rintro l pre x W ⟨⟨hall, hb0, hb1, v, hv, hrow, hnil⟩, hB⟩ hlt
    have hxs : (⟨x.toArray⟩ : ByteArray).data.toList = x := by simp
    cases hm : mayB x
    · gi_wp2_with (refine ⟨trivial, ?_⟩; gi_at_call 18; refine (CallsIn.inRound l (callsIn_wide.2 (may_any ⟨x.toArray⟩ _))).mono ?_; rintro e w' ⟨rfl, hw⟩; rw [hxs, hm]; have q0 := hb0.kept (only_of_below hw none) (by simp); have q1 := hb1.kept (only_of_below hw none) (by simp); have c0 := q0.cell; have f0 := q0.frozen; have c1 := q1.cell; have f1 := q1.frozen)
      refine ⟨(((KeepsOthers.of_grownBy (only_of_below hw none) (fun j o e => by cases e)).trans (KeepsOthers.setCell _ _ _)).trans (KeepsOthers.setCell _ _ _)).from _, ⟨rfl, by simp [hm], (q0.set _).other (by omega) _, (q1.other (by omega) _).set _⟩, ?_⟩
      exact ((hB.trans (hw.mono hB.size)).setCell (p := ⟨w.heap.size, 0, none⟩) (Nat.le_refl _) _).setCell (p := ⟨w.heap.size + 1, 0, none⟩) (by simp) _
    · gi_wp2_with (first
        | (refine ⟨trivial, ?_⟩; gi_at_call 18; refine (CallsIn.inRound l (callsIn_wide.2 (may_any ⟨x.toArray⟩ _))).mono ?_; rintro e w' ⟨rfl, hw⟩; rw [hxs, hm]; have q0 := hb0.kept (only_of_below hw none) (by simp); have q1 := hb1.kept (only_of_below hw none) (by simp); have q2 := hv.kept (only_of_below hw none) (by simp); have r2 := row_below hrow hw; have c2 := q2.cell; have hB2 := hB.trans (hw.mono hB.size))
        | (gi_at_builtin; refine wpListIn_append_own _ rfl _ _ 22 rfl w.heap.size 9 i0 (.string ⟨#[]⟩) 1 16 Try.underlying22 hi hz0 hz1 hz2 rfl (by decide) _ _ _ rfl (r2.alloc _) ⟨w'.heap.size, 0, none⟩ 1 1 [S x] rfl rfl (cell_one_new _ _ _) (by simp [Value.oneCell']) (by unfold maxLen; omega) (by omega) (by have := hB2.size; simp; omega) ?_; intro v' w1 hown' hgrow _; obtain ⟨g', cap', rfl⟩ := ownsRow_succ hown'; obtain ⟨hv1, hv2, hr2, hk2, hb2⟩ := q2.appended (by decide) r2 hB2.size (by omega) hown' hgrow; have hc1 := hv1.cell; have hf1 := hv1.frozen))
      have p0 := ((q0.alloc (.cells #[S x] 9)).kept hgrow ((q0.alloc (.cells #[S x] 9)).not_row (by decide) (r2.alloc (.cells #[S x] 9)))).other (B' := w.heap.size + 1 + 1) (by omega) (.slice (some ⟨g', 0, none⟩) (pre.length + 1) cap')
      have p1 := ((q1.alloc (.cells #[S x] 9)).kept hgrow ((q1.alloc (.cells #[S x] 9)).not_row (by decide) (r2.alloc (.cells #[S x] 9)))).other (B' := w.heap.size + 1 + 1) (by omega) (.slice (some ⟨g', 0, none⟩) (pre.length + 1) cap')
      refine ⟨((KeepsOthers.of_grownBy (only_of_below hw none) (fun j o e => by cases e)).trans hk2).from _, (hw.mono hB.size).trans hb2, ⟨⟨by simp [hall, hm], p0, p1, _, hv2, by simpa using hr2, by simp⟩, hB2.trans hb2⟩⟩
  case done =>
    rintro D ys W hD rfl ⟨⟨hall, hb0, hb1, v, hv, hrow, hnil⟩, hB⟩ hK
    have c2 := hv.cell
    have c0 := hb0.cell
    have f0 := hb0.frozen
    have c1 := hb1.cell
    have f1 := hb1.frozen
    have HN := Lib.hid hnil
    have hlen : v = .slice none 0 0 ∨ ∃ g cap, v = .slice (some ⟨g, 0, none⟩) (tellL path.data.toList).length cap := by
      rcases hrow.2 with hn | ⟨g, cap, cur, rfl, _⟩
      · exact .inl hn.1
      · exact .inr ⟨g, cap, rfl⟩
    by_cases h16 : 16 < (tellL path.data.toList).length
    · have hres : splitR path.data.toList = ([], 4) := by rw [HH.out, if_neg (by rw [hall]; simp), if_pos h16]
      have HR := Lib.hid hres
      have d16 : decide (16 < (tellL path.data.toList).length) = true := decide_eq_true h16
      clear hres
      rcases hlen with rfl | ⟨g, cap, rfl⟩
      · have := hnil.1 rfl; rw [this] at h16; simp at h16
      · clear hnil
        gi_wp2
        have hK' := ((KeepsOthers.setCell W ⟨w.heap.size, 0, none⟩ (.slice none 0 0)).trans (KeepsOthers.setCell _ ⟨w.heap.size + 1, 0, none⟩ (.int .i64 4))).same D _ hK rfl
        have z0 := (hb0.set (.slice none 0 0)).other (B' := w.heap.size + 1) (by omega) (.int .i64 4)
        have z1 := (hb1.other (B' := w.heap.size) (by omega) (.slice none 0 0)).set (.int .i64 4)
        have hB' := (hB.setCell (p := ⟨w.heap.size, 0, none⟩) (Nat.le_refl _) (.slice none 0 0)).setCell (p := ⟨w.heap.size + 1, 0, none⟩) (by simp) (.int .i64 4)
        refine ⟨by simp, .inl ⟨_, _, rfl, run_takeDeferred hK', ?_⟩⟩
        generalize ((W.setCell ⟨w.heap.size, 0, none⟩ (.slice none 0 0)).setCell ⟨w.heap.size + 1, 0, none⟩ (.int .i64 4)) = W2 at *
        have k0 := z0.kept (grownBy_putObj' W2 D (.deferred none)) (fun e => by cases e; rw [show W2.heap[w.heap.size]? = _ from z0] at hK'; cases hK')
        have k1 := z1.kept (grownBy_putObj' W2 D (.deferred none)) (fun e => by cases e; rw [show W2.heap[w.heap.size + 1]? = _ from z1] at hK'; cases hK')
        have hres := HR.out
        refine ⟨.tuple #[.slice none 0 0, .int .i64 4], ?_, .slice none 0 0, by rw [hres], by rw [hres]; exact World.ownsRow_nil _ _ _ _, by rw [hres]; simp, hB'.trans (belowK_b (w := w) (Nat.le_refl _) W2 D _ _ (by simp at hD; omega) hK' rfl rfl)⟩
        simp [results, Try.f14, go_sem, k0.cell, k1.cell]
    · have hres : splitR path.data.toList = (tellL path.data.toList, 0) := by rw [HH.out, if_neg (by rw [hall]; simp), if_neg h16]
      have HR := Lib.hid hres
      have fin : ∀ W2, W2.ownsRow w.heap.size 9 1 v (tellL path.data.toList).length ((tellL path.data.toList).map S) → Boxed W2 w.heap.size 22 v → Boxed W2 (w.heap.size + 1) 23 (.int .i64 0) → Below w.heap.size w W2 → W2.heap[D]? = some (.deferred (some [])) →
          ∃ x, (∀ tmps : Array Value, tmps[2]?.getD undef = .pointer (some ⟨w.heap.size, 0, none⟩) → tmps[3]?.getD undef = .pointer (some ⟨w.heap.size + 1, 0, none⟩) → (results Try.f14 tmps).run Try.prog (W2.putObj D (.deferred none)) = .ok x (W2.putObj D (.deferred none))) ∧ TellsNames w (splitR path.data.toList).1 (splitR path.data.toList).2 (.returned x) (W2.putObj D (.deferred none)) := by
        intro W2 hr z0 z1 hB' hK'
        have k0 := z0.kept (grownBy_putObj' W2 D (.deferred none)) (fun e => by cases e; rw [show W2.heap[w.heap.size]? = _ from z0] at hK'; cases hK')
        have k1 := z1.kept (grownBy_putObj' W2 D (.deferred none)) (fun e => by cases e; rw [show W2.heap[w.heap.size + 1]? = _ from z1] at hK'; cases hK')
        refine ⟨.tuple #[v, .int .i64 0], ?_, v, by rw [hres], by rw [hres]; exact ownsRow_putObj hr _ hK' rfl, by rw [hres]; exact hnil, hB'.trans (belowK_b (w := w) (Nat.le_refl _) W2 D _ _ (by simp at hD; omega) hK' rfl rfl)⟩
        intro tmps t2 t3
        simp [results, Try.f14, go_sem, t2, t3, k0.cell, k1.cell]
      have FIN := Lib.hid fin
      have r0 := hrow.kept (grownBy_setCell' W w.heap.size v) (.inr (fun e => hb0.not_row (by decide) hrow e.symm))
      have y1 := hb1.other (B' := w.heap.size) (by omega) v
      have r1 := r0.kept (grownBy_setCell' _ (w.heap.size + 1) (.int .i64 0)) (.inr (fun e => y1.not_row (by decide) r0 e.symm))
      have z0 := (hb0.set v).other (B' := w.heap.size + 1) (by omega) (.int .i64 0)
      have z1 := y1.set (.int .i64 0)
      have hB' := (hB.setCell (p := ⟨w.heap.size, 0, none⟩) (Nat.le_refl _) v).setCell (p := ⟨w.heap.size + 1, 0, none⟩) (by simp) (.int .i64 0)
      have hK' := ((KeepsOthers.setCell W ⟨w.heap.size, 0, none⟩ v).trans (KeepsOthers.setCell _ ⟨w.heap.size + 1, 0, none⟩ (.int .i64 0))).same D _ hK rfl
      obtain ⟨x, hx1, hx2⟩ := fin _ r1 z0 z1 hB' hK'
      have HX1 := Lib.hid hx1
      have HK' := Lib.hid hK'
      clear hres fin r0 y1 r1 z0 z1 hB' hx1 hK' FIN
      have d16 : ¬ 16 < (tellL path.data.toList).length := h16
      rcases hlen with rfl | ⟨g, cap, rfl⟩
      · clear hnil
        gi_wp2
        refine ⟨by simp, .inl ⟨_, _, rfl, run_takeDeferred HK'.out, ?_⟩⟩
        exact ⟨x, HX1.out _ rfl rfl, hx2⟩
      · clear hnil
        gi_wp2
        refine ⟨by simp, .inl ⟨_, _, rfl, run_takeDeferred HK'.out, ?_⟩⟩
        exact ⟨x, HX1.out _ rfl rfl, hx2⟩
  case stop =>
    rintro D c pre W hD hpre ⟨⟨rfl, hall, hb0, hb1⟩, hB⟩ hK
    gi_wp2
    refine ⟨by simp, .inl ⟨_, _, rfl, run_takeDeferred hK, ?_⟩⟩
    have k0 := hb0.kept (grownBy_putObj' W D (.deferred none)) (fun e => by cases e; rw [show W.heap[w.heap.size]? = _ from hb0] at hK; cases hK)
    have k1 := hb1.kept (grownBy_putObj' W D (.deferred none)) (fun e => by cases e; rw [show W.heap[w.heap.size + 1]? = _ from hb1] at hK; cases hK)
    have hall2 : (tellL path.data.toList).all mayB = false := by
      rw [Bool.eq_false_iff] at hall ⊢
      intro h
      exact hall (by rw [List.all_eq_true] at h ⊢; exact fun x hx => h x (hpre.subset hx))
    have hres : splitR path.data.toList = ([], 290) := by rw [HH.out, if_pos hall2]
    refine ⟨.tuple #[.slice none 0 0, .int .i64 290], ?_, .slice none 0 0, by rw [hres], by rw [hres]; exact World.ownsRow_nil _ _ _ _, by rw [hres]; simp, hB.trans (belowK_b (w := w) (Nat.le_refl _) W D _ _ (by simp at hD; omega) hK rfl rfl)⟩
    simp [results, Try.f14, go_sem, k0.cell, k1.cell]

theorem tells_none (w W : World) (n : Int) (hb : Below w.heap.size w W) : TellsNames w [] n (.returned (.tuple #[.slice none 0 0, .int .i64 n])) W :=
  ⟨_, rfl, World.ownsRow_nil _ _ _ _, by simp, hb⟩

set_option maxHeartbeats 1000000 in
theorem split_long (path : ByteArray) (w : World) (h : 512 < path.size) : Calls Try.prog 14 #[.string path] w (TellsNames w [] 3) := by
  have d1 : decide ((512 : Int) < (path.size : Int)) = true := decide_eq_true (by omega)
  go_enter Try.func14, Try.ntmps14
  go_wp2_with fail
  exact bodyPost_ret (v := .tuple #[.slice none 0 0, .int .i64 3]) (by simp [results, Try.f14, go_sem]) rfl (tells_none _ _ _ (((Below.refl _ _).alloc (Nat.le_refl _) _).alloc (by simp) _))

set_option maxHeartbeats 1000000 in
theorem split_void (w : World) : Calls Try.prog 14 #[.string ⟨#[]⟩] w (TellsNames w [] 290) := by
  go_enter Try.func14, Try.ntmps14
  go_wp2_with fail
  exact bodyPost_ret (v := .tuple #[.slice none 0 0, .int .i64 290]) (by simp [results, Try.f14, go_sem]) rfl (tells_none _ _ _ (((Below.refl _ _).alloc (Nat.le_refl _) _).alloc (by simp) _))

set_option maxHeartbeats 1000000 in
theorem split_other (path : ByteArray) (w : World) (h1 : 1 ≤ path.size) (h2 : path.size ≤ 512) (h3 : ¬ (path[0]'(by omega)).toNat = 47) (h4 : path.toList.isEmpty = false) : Calls Try.prog 14 #[.string path] w (TellsNames w [] 290) := by
  have d1 : decide ((512 : Int) < (path.size : Int)) = false := decide_eq_false (by omega)
  have d3 : (((path[0]'(by omega)).toNat : Int) != 47) = true := by rw [bne_iff_ne]; omega
  go_enter Try.func14, Try.ntmps14
  go_wp2_with fail
  exact bodyPost_ret (v := .tuple #[.slice none 0 0, .int .i64 290]) (by simp [results, Try.f14, go_sem]) rfl (tells_none _ _ _ (((Below.refl _ _).alloc (Nat.le_refl _) _).alloc (by simp) _))

/-- names.Split tells what 'splitR' says. -/
theorem split_any (path : ByteArray) (w : World) : Calls Try.prog 14 #[.string path] w (TellsNames w (splitR path.data.toList).1 (splitR path.data.toList).2) := by
  have hz := Lib.size_eq path
  by_cases hl : 512 < path.size
  · have e : splitR path.data.toList = ([], 3) := by unfold splitR; rw [if_pos (by omega)]
    rw [e]
    exact split_long path w hl
  by_cases h1 : 1 ≤ path.size
  · by_cases h3 : (path[0]'(by omega)).toNat = 47
    · exact split_walk path w h1 (by omega) h3
    · have hh : path.data.toList.head? ≠ some 47 := by
        rw [List.head?_eq_getElem?, Lib.data_getElem? path 0 (by omega)]
        intro e
        exact h3 (by rw [Option.some.inj e]; rfl)
      have e : splitR path.data.toList = ([], 290) := by unfold splitR; rw [if_neg (by omega), if_pos hh]
      rw [e]
      refine split_other path w h1 (by omega) h3 ?_
      rw [Lib.toList_data]
      cases h : path.data.toList with
      | nil => rw [h, List.length_nil] at hz; omega
      | cons _ _ => rfl
  · have hn : path.data.toList = [] := List.length_eq_zero_iff.1 (by omega)
    have hp : path = ⟨#[]⟩ := data_eq.2 (by rw [hn])
    have e : splitR path.data.toList = ([], 290) := by rw [hn]; rfl
    rw [e, hp]
    exact split_void w

end Go.Proofs.Ytjpmekapkjkkbaa
