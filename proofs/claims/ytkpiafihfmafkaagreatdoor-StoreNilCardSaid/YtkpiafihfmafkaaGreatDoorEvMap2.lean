/- Maps: the operations. -/
import Derived.Test.YtkpiafihfmafkaaGreatDoorEvMap
namespace Go.Ev
open Go.RowKit

section
variable {K : Cfg} {P : Program} {ρ : Ren} {h : H} {w : World} {ts : Tmps} {e : Operand → Value} {o : Oper} {v : V} {h' : H}

theorem mapTI_some {t kt et : TypeId} (F : Fits K P) (h : mapTI K t = some (kt, et)) : P.underlying t = some (.map kt et) := by
  unfold mapTI at h
  split at h
  · rename_i ti hti
    split at h
    · rename_i k e hd
      cases h
      have := F.und t ti hti
      rw [hd] at this
      exact this
    · cases h
  · cases h

theorem entries_run (hr : Rep K ρ h w) {m : Option C} {es : List (W × W)} (hm : entriesOf h m = some es) {u : Value} (hu : ∀ c, m = some c → Con ρ c u) : (u = .map none ∧ es = []) ∨ ∃ n l xs clock, u = .map (some l.blk) ∧ m = some (.map n) ∧ h.get n = some (.map es) ∧ ρ n = some l ∧ w.heap[l.blk]? = some (.map xs clock) ∧ All2 (ConE ρ) es xs.toList ∧ Born xs.toList clock := by
  unfold entriesOf at hm
  split at hm
  · cases hm
    exact .inl ⟨hu _ rfl, rfl⟩
  · rename_i n
    split at hm
    · rename_i es' ho
      cases hm
      obtain ⟨l, hl, xs, clock, h1, h2, h3⟩ := hr.obj n _ ho
      obtain ⟨l', hl', hu'⟩ := hu _ rfl
      rw [hl] at hl'
      cases hl'
      exact .inr ⟨n, l, xs, clock, hu', rfl, ho, hl, h1, h2, h3⟩
    · cases hm
  · cases hm

theorem good_lookup (F : Fits K P) (hr : Rep K ρ h w) (he : EvR K ρ ts e) {t : TypeId} {x y : Operand} {ok : Bool} (hop : o.op = .lookup t x y ok) (hv : opLookup K h (mapTI K t) (evalC K ts x) (evalW K ts y) ok = some (v, h')) : Same ρ h w v h' ((execOp e o).run P w) := by
  unfold opLookup at hv
  split at hv
  · rename_i kt et k es hmt hy hes
    split at hv
    · rename_i te hte
      cases hb : keyT K 20 kt k with
      | false => rw [hb] at hv; cases hv
      | true =>
        rw [hb] at hv
        simp only [cond_true] at hv
        obtain ⟨hq, rfl⟩ := outV_some hv
        have hun := mapTI_some F hmt
        have hk := he.w hy
        obtain ⟨i, hi, _, _, z, hz, hzc⟩ := F.info et te hte
        have hzero : (zeroValue et).run P w = .ok z w := by simp [zeroValue, typeInfo, hi, hz]
        cases hf : findK K kt k es with
        | none => rw [hf] at hq; simp [found] at hq
        | some r =>
          rw [hf] at hq
          obtain ⟨p, hp, hpr⟩ := findK_placed hf
          have key : ∀ (u : Value) (xs : Array MapEntry), All2 (ConE ρ) es xs.toList → (u = .map none ∧ xs = #[] ∨ ∃ b clock, u = .map (some b) ∧ w.heap[b]? = some (.map xs clock)) → ∃ val, (Instr.lookup t u (e y) ok).run P w = .ok val w ∧ ConV ρ v val := by
            intro u xs hxs hcase
            have hck := keyT_run (w := w) F xs.isEmpty 20 kt k hb (e y) hk 10000 (by decide)
            obtain ⟨q, hfk, hc⟩ := findKey_run F hb hk hp hxs (w := w)
            rcases hc with ⟨rfl, rfl⟩ | ⟨j, u', yv, rfl, rfl, hcon⟩
            · subst hpr
              simp only [Option.map_none, found] at hq
              cases hq
              rcases hcase with ⟨rfl, rfl⟩ | ⟨b, clock, rfl, hbl⟩
              · cases ok with
                | true => exact ⟨.tuple #[z, .bool false], by simp only [Instr.lookup, Sem.run_bind, run_underlying hun w, Result.andThen_ok, Sem.run_pure, hck, hfk, hzero, if_true], _, rfl, hzc ρ, rfl, trivial⟩
                | false => exact ⟨z, by simp only [Instr.lookup, Sem.run_bind, run_underlying hun w, Result.andThen_ok, Sem.run_pure, hck, hfk, hzero, Bool.false_eq_true, if_false], hzc ρ⟩
              · have hgo : (getObj b).run P w = .ok (.map xs clock) w := by simp [getObj, Sem.run, hbl]
                cases ok with
                | true => exact ⟨.tuple #[z, .bool false], by simp only [Instr.lookup, Sem.run_bind, run_underlying hun w, Result.andThen_ok, Sem.run_pure, hgo, hck, hfk, hzero, if_true], _, rfl, hzc ρ, rfl, trivial⟩
                | false => exact ⟨z, by simp only [Instr.lookup, Sem.run_bind, run_underlying hun w, Result.andThen_ok, Sem.run_pure, hgo, hck, hfk, hzero, Bool.false_eq_true, if_false], hzc ρ⟩
            · subst hpr
              simp only [Option.map_some, found] at hq
              cases hq
              rcases hcase with ⟨rfl, rfl⟩ | ⟨b, clock, rfl, hbl⟩
              · cases ok with
                | true => exact ⟨.tuple #[yv, .bool true], by simp only [Instr.lookup, Sem.run_bind, run_underlying hun w, Result.andThen_ok, Sem.run_pure, hck, hfk, if_true], _, rfl, hcon, rfl, trivial⟩
                | false => exact ⟨yv, by simp only [Instr.lookup, Sem.run_bind, run_underlying hun w, Result.andThen_ok, Sem.run_pure, hck, hfk, Bool.false_eq_true, if_false], hcon⟩
              · have hgo : (getObj b).run P w = .ok (.map xs clock) w := by simp [getObj, Sem.run, hbl]
                cases ok with
                | true => exact ⟨.tuple #[yv, .bool true], by simp only [Instr.lookup, Sem.run_bind, run_underlying hun w, Result.andThen_ok, Sem.run_pure, hgo, hck, hfk, if_true], _, rfl, hcon, rfl, trivial⟩
                | false => exact ⟨yv, by simp only [Instr.lookup, Sem.run_bind, run_underlying hun w, Result.andThen_ok, Sem.run_pure, hgo, hck, hfk, Bool.false_eq_true, if_false], hcon⟩
          have hend : ∃ val, (Instr.lookup t (e x) (e y) ok).run P w = .ok val w ∧ ConV ρ v val := by
            rcases entries_run hr hes (u := e x) (fun c hc => he.c hc) with ⟨hu, rfl⟩ | ⟨n, l, xs, clock, hu, hxm, ho, hl, h1, h2, h3⟩
            · exact key _ #[] trivial (.inl ⟨hu, rfl⟩)
            · exact key _ xs h2 (.inr ⟨_, _, hu, h1⟩)
          obtain ⟨val, hrun, hcon⟩ := hend
          refine Same.of hr (val := val) ?_ hcon
          simp only [execOp, hop]
          rw [Sem.run_bind, hrun]
          rfl
    · cases hv
  · cases hv

/-! ### Writing -/
theorem putK_placed {kt : TypeId} {k v : W} : ∀ {es es' : List (W × W)}, putK K kt k v es = some es' → (Placed K kt k es none ∧ es' = es ++ [(k, v)]) ∨ ∃ i u k', Placed K kt k es (some (i, u)) ∧ es[i]? = some (k', u) ∧ keySame k' k = true ∧ es' = es.set i (k, v)
  | [], es', h => by simp [putK] at h; subst h; exact .inl ⟨.nil, rfl⟩
  | (k', v') :: es, es', h => by
    simp only [putK] at h
    split at h
    · cases h
    · rename_i hk
      cases hs : keySame k' k with
      | false => rw [hs] at h; cases h
      | true => rw [hs] at h; cases h; exact .inr ⟨0, v', k', .here hk, rfl, hs, rfl⟩
    · rename_i hk
      split at h
      · cases h
      · rename_i l' hl'
        cases h
        rcases putK_placed hl' with ⟨hp, rfl⟩ | ⟨i, u, k2, hp, hg, hs, rfl⟩
        · exact .inl ⟨.none hk hp, rfl⟩
        · exact .inr ⟨i + 1, u, k2, .some hk hp, by simpa using hg, hs, rfl⟩

theorem set_same {α : Type} {l : List α} {i : Nat} {a : α} (h : l[i]? = some a) : l.set i a = l := by
  apply List.ext_getElem?
  intro j
  rw [List.getElem?_set]
  split
  · rename_i e
    subst e
    rw [h]
    simp [(List.getElem?_eq_some_iff.1 h).1]
  · rfl

theorem placed_key {kt : TypeId} {k : W} : ∀ {es : List (W × W)} {i : Nat} {u : W}, Placed K kt k es (some (i, u)) → ∃ k', es[i]? = some (k', u) ∧ keyEq K kt k k' = some true := by
  intro es i u hp
  generalize hq : (some (i, u) : Option (Nat × W)) = q at hp
  induction hp generalizing i with
  | nil => cases hq
  | here hh => cases hq; exact ⟨_, rfl, hh⟩
  | none hh r ih => cases hq
  | some hh r ih =>
    cases hq
    obtain ⟨k', h1, h2⟩ := ih rfl
    exact ⟨k', by simpa using h1, h2⟩

theorem delK_placed {kt : TypeId} {k : W} : ∀ {es es' : List (W × W)}, delK K kt k es = some es' → (Placed K kt k es none ∧ es' = es) ∨ ∃ i u, Placed K kt k es (some (i, u)) ∧ i < es.length ∧ es' = es.eraseIdx i
  | [], es', h => by simp [delK] at h; subst h; exact .inl ⟨.nil, rfl⟩
  | (k', v') :: es, es', h => by
    simp only [delK] at h
    split at h
    · cases h
    · rename_i hk; cases h; exact .inr ⟨0, v', .here hk, by simp, rfl⟩
    · rename_i hk
      split at h
      · cases h
      · rename_i l' hl'
        cases h
        rcases delK_placed hl' with ⟨hp, rfl⟩ | ⟨i, u, hp, hi, rfl⟩
        · exact .inl ⟨.none hk hp, rfl⟩
        · exact .inr ⟨i + 1, u, .some hk hp, by simpa using hi, rfl⟩

theorem sameBits_ints {n : Nat} : ∀ {a b : List C} {xs ys : List Value}, eqInts a b = some true → All2 (Con ρ) a xs → All2 (Con ρ) b ys → xs.length = ys.length ∧ (xs.zip ys).all (fun p => Instr.sameBits n p.1 p.2) = true
  | [], [], xs, ys, _, ha, hb => by
    cases xs with
    | nil => cases ys with
      | nil => exact ⟨rfl, rfl⟩
      | cons _ _ => exact hb.elim
    | cons _ _ => exact ha.elim
  | x :: a, y :: b, xs, ys, h, ha, hb => by
    cases xs with
    | nil => exact ha.elim
    | cons u xs =>
      cases ys with
      | nil => exact hb.elim
      | cons u' ys =>
        cases x <;> cases y <;> simp only [eqInts, reduceCtorEq] at h
        rename_i k1 n1 k2 n2
        split at h
        · rename_i hk
          subst hk
          cases hn : n1 == n2 with
          | false => rw [hn] at h; simp at h
          | true =>
            rw [hn] at h
            simp only [cond_true] at h
            obtain ⟨h1, h2⟩ := sameBits_ints (n := n) h ha.2 hb.2
            have e1 : u = .int k1 n1 := ha.1
            have e2 : u' = .int k1 n2 := hb.1
            subst e1; subst e2
            refine ⟨by simp [h1], ?_⟩
            have hn' : n1 = n2 := by simpa using hn
            simp only [List.zip_cons_cons, List.all_cons, h2, Bool.and_true]
            cases n <;> simp [Instr.sameBits, hn']
        · cases h
  | [], _ :: _, _, _, h, _, _ => by simp [eqInts] at h
  | x :: _, [], _, _, h, _, _ => by cases x <;> simp [eqInts] at h

theorem stays_run (_F : Fits K P) {kt : TypeId} {k k' : W} {a b : Value} (hk : keyT K 20 kt k = true) (heq : keyEq K kt k k' = some true) (hs : keySame k' k = true) (ha : ConW ρ k' a) (hb : ConW ρ k b) : (Instr.keyThatStays a b).run P w = .ok b w := by
  have hsame : Instr.sameBits 10000 a b = true := by
    cases k with
    | g l =>
      cases k' with
      | c c => simp [keyEq] at heq
      | g l' =>
        simp only [keySame] at hs
        split at hs
        · rename_i hi
          obtain ⟨xs, rfl, hxs⟩ := ha
          obtain ⟨ys, rfl, hys⟩ := hb
          obtain ⟨h1, h2⟩ := sameBits_ints (n := 9999) hi hxs hys
          rw [show (10000 : Nat) = 9999 + 1 from rfl, Instr.sameBits]
          simp only [Bool.and_eq_true, beq_iff_eq]
          refine ⟨by simpa using h1, ?_⟩
          exact h2
        · cases hs
    | c c =>
      cases k' with
      | g l' => cases c <;> simp [keyEq] at heq
      | c c' =>
        cases c <;> cases c' <;> simp only [keyEq, reduceCtorEq] at heq
        · rename_i q n q' n'
          split at heq
          · rename_i hq
            subst hq
            have e1 : a = .int q n' := ha
            have e2 : b = .int q n := hb
            subst e1; subst e2
            simp only [Option.some.injEq, beq_iff_eq] at heq
            subst heq
            rw [show (10000 : Nat) = 9999 + 1 from rfl]
            simp [Instr.sameBits]
          · cases heq
        · rename_i s s'
          have e1 : a = .string ⟨⟨s'⟩⟩ := ha
          have e2 : b = .string ⟨⟨s⟩⟩ := hb
          subst e1; subst e2
          simp only [Option.some.injEq] at heq
          rw [show (10000 : Nat) = 9999 + 1 from rfl]
          simp only [Instr.sameBits, bytes_beq]
          rw [eqStr_eq] at heq ⊢
          have := eq_of_beq heq
          subst this
          simp
  simp [Instr.keyThatStays, hsame]

theorem All2.set {α β : Type} {R : α → β → Prop} : ∀ {l : List α} {m : List β} (i : Nat) {a : α} {b : β}, All2 R l m → R a b → All2 R (l.set i a) (m.set i b)
  | [], [], _, _, _, _, _ => trivial
  | _ :: _, _ :: _, 0, _, _, h, r => ⟨r, h.2⟩
  | _ :: _, _ :: _, i + 1, _, _, h, r => ⟨h.1, All2.set i h.2 r⟩
  | [], _ :: _, _, _, _, h, _ => h.elim
  | _ :: _, [], _, _, _, h, _ => h.elim
theorem All2.eraseIdx {α β : Type} {R : α → β → Prop} : ∀ {l : List α} {m : List β} (i : Nat), All2 R l m → All2 R (l.eraseIdx i) (m.eraseIdx i)
  | [], [], _, _ => trivial
  | _ :: _, _ :: _, 0, h => h.2
  | _ :: _, _ :: _, i + 1, h => ⟨h.1, All2.eraseIdx i h.2⟩
  | [], _ :: _, _, h => h.elim
  | _ :: _, [], _, h => h.elim

/-- A map is exchanged. -/
theorem map_put (hr : Rep K ρ h w) {n : Nat} {l : Loc} {es es' : List (W × W)} (ho : h.get n = some (.map es)) (hl : ρ n = some l) {xs : Array MapEntry} {clock : Nat} (hx : All2 (ConE ρ) es' xs.toList) (hb : Born xs.toList clock) :
    Rep K ρ (h.put n (.map es')) { w with heap := w.heap.setIfInBounds l.blk (.map xs clock) } ∧ Fr ρ h w ρ (h.put n (.map es')) { w with heap := w.heap.setIfInBounds l.blk (.map xs clock) } := by
  obtain ⟨l', hl', hor⟩ := hr.obj n _ ho
  rw [hl] at hl'
  cases hl'
  have hlt := hor.lt
  refine hr.update ho rfl hl rfl (fun k hk => ?_) (by simp) ⟨xs, clock, ?_, hx, hb⟩ rfl rfl rfl
  · simp [Ne.symm hk]
  · simp [hlt]

theorem placed_int {kt : TypeId} {q : IntKind} {n : Int} : ∀ {es : List (W × W)}, Placed K kt (.c (.int q n)) es none → ∀ {xs : List MapEntry}, All2 (ConE ρ) es xs → ∀ x ∈ xs, x.key ≠ .int q n
  | [], _, xs, hx, x, hm => by
    cases xs with
    | nil => simp at hm
    | cons _ _ => exact hx.elim
  | (k', v') :: es, hp, xs, hx, x, hm => by
    cases hp with
    | none hk r =>
      cases xs with
      | nil => exact hx.elim
      | cons y ys =>
        rcases List.mem_cons.1 hm with rfl | hm
        · intro hxk
          have hc := hx.1.1
          simp only at hc
          rw [hxk] at hc
          cases k' with
          | g l => simp [keyEq] at hk
          | c c =>
            cases c <;> simp only [keyEq, reduceCtorEq] at hk
            rename_i q2 n2
            split at hk
            · rename_i hq
              subst hq
              have : (Value.int q n) = .int q n2 := hc
              simp only [Value.int.injEq, true_and] at this
              subst this
              simp at hk
            · cases hk
        · exact placed_int r hx.2 x hm

theorem good_mapUpdate (F : Fits K P) (hr : Rep K ρ h w) (he : EvR K ρ ts e) {t : TypeId} {x y z : Operand} (hop : o.op = .mapUpdate t x y z) (hv : opMapUpdate K h (mapTI K t) (evalC K ts x) (evalW K ts y) (evalW K ts z) = some (v, h')) : Good K ρ h w v h' ((execOp e o).run P w) := by
  unfold opMapUpdate at hv
  split at hv
  · rename_i kt et n k u hmt hx hy hz
    split at hv
    · rename_i es ho
      cases hb : keyT K 20 kt k with
      | false => rw [hb] at hv; cases hv
      | true =>
        rw [hb] at hv
        simp only [cond_true] at hv
        unfold putMap at hv
        split at hv
        · rename_i es' hput
          cases hv
          have hun := mapTI_some F hmt
          have hk := he.w hy
          have hzv := he.w hz
          obtain ⟨l, hl, xs, clock, h1, h2, h3⟩ := hr.obj n _ ho
          obtain ⟨l', hl', hu'⟩ := he.c hx
          rw [hl] at hl'
          cases hl'
          have hck := keyT_run (w := w) F false 20 kt k hb (e y) hk 10000 (by decide)
          have hgo : (getObj l.blk).run P w = .ok (.map xs clock) w := by simp [getObj, Sem.run, h1]
          have hso : ∀ ob, (setObj l.blk ob).run P w = .ok () { w with heap := w.heap.setIfInBounds l.blk ob } := fun ob => by simp [setObj, Sem.run, h1]
          rcases putK_placed hput with ⟨hp, rfl⟩ | ⟨i, u', k', hp, hg, hs, rfl⟩
          · obtain ⟨q, hfk, hc⟩ := findKey_run F hb hk hp h2 (w := w)
            have hq : q = none := by
              rcases hc with ⟨_, h0⟩ | ⟨i, v, y, h0, _⟩
              · exact h0
              · cases h0
            subst hq
            have hnew : All2 (ConE ρ) (es ++ [(k, u)]) (xs.push { key := e y, val := e z, born := clock }).toList := by
              rw [Array.toList_push]
              exact h2.append ⟨⟨hk, hzv⟩, trivial⟩
            have hborn : Born (xs.push { key := e y, val := e z, born := clock }).toList (clock + 1) := by
              rw [Array.toList_push]
              refine ⟨?_, fun x hx => ?_, ?_⟩
              · rw [List.pairwise_append]
                exact ⟨h3.up, by simp, fun a ha b hb => by simp at hb; subst hb; exact h3.old a ha⟩
              · rcases List.mem_append.1 hx with hx | hx
                · exact Nat.lt_succ_of_lt (h3.old x hx)
                · simp at hx; subst hx; simp
              · rw [List.pairwise_append]
                refine ⟨h3.apart, by simp, fun a ha b hb q n hqa hqb => ?_⟩
                simp at hb
                subst hb
                simp only at hqb
                rcases keyT_cases F hb with ⟨_, q', n', _, rfl⟩ | ⟨s, _, rfl⟩ | ⟨_, l', _, rfl⟩
                · have : e y = .int q' n' := hk
                  rw [this] at hqb
                  cases hqb
                  exact placed_int hp h2 a ha hqa
                · have : e y = .string ⟨⟨s⟩⟩ := hk
                  rw [this] at hqb
                  cases hqb
                · obtain ⟨cs, hcs, _⟩ := hk
                  rw [hcs] at hqb
                  cases hqb
            obtain ⟨a1, a2⟩ := map_put hr ho hl hnew hborn
            refine ⟨ρ, _, Go.undef, .inr ⟨?_, rfl⟩, Ren.le.refl _, New.refl _ _ _, a1, conV_undef _, a2, Nat.le_refl _⟩
            simp only [execOp, hop, hu', Sem.run_bind, Instr.mapUpdate, run_underlying hun w, Result.andThen_ok, hgo, hck, hfk, hso, Sem.run_pure]
          · obtain ⟨q, hfk, hc⟩ := findKey_run F hb hk hp h2 (w := w)
            obtain ⟨yv, hq, hcon⟩ : ∃ yv, q = some (i, yv) ∧ ConW ρ u' yv := by
              rcases hc with ⟨h0, _⟩ | ⟨i', v, y, h0, hq, hcon⟩
              · cases h0
              · cases h0; exact ⟨y, hq, hcon⟩
            subst hq
            obtain ⟨me, hme, hce⟩ := h2.get i _ hg
            have hkeq : keyEq K kt k k' = some true := by
              obtain ⟨k2, hg2, hk2⟩ := placed_key hp
              rw [hg] at hg2
              cases hg2
              exact hk2
            have hst := stays_run (w := w) F hb hkeq hs hce.1 hk
            have hxi : xs[i]? = some me := by rw [← hme]; simp
            have hlist : (xs.modify i fun x => { x with key := e y, val := e z }).toList = xs.toList.set i { me with key := e y, val := e z } := by
              rw [Array.toList_modify, List.modify_eq_set, hme]
              rfl
            have hnew : All2 (ConE ρ) (es.set i (k, u)) (xs.modify i fun x => { x with key := e y, val := e z }).toList := by
              rw [hlist]
              exact h2.set i ⟨hk, hzv⟩
            have hborn : Born (xs.modify i fun x => { x with key := e y, val := e z }).toList clock := by
              have hmark : (xs.modify i fun x => { x with key := e y, val := e z }).toList.map (fun x => x.born) = xs.toList.map (fun x => x.born) := by
                rw [hlist, List.map_set]
                have : (xs.toList.map fun x => x.born)[i]? = some me.born := by rw [List.getElem?_map, hme]; rfl
                exact set_same this
              have hkeys : e y = me.key ∨ ∀ q n, e y ≠ .int q n := by
                rcases keyT_cases F hb with ⟨_, q', n', _, rfl⟩ | ⟨s, _, rfl⟩ | ⟨_, l', _, rfl⟩
                · left
                  have h0 : e y = .int q' n' := hk
                  cases k' with
                  | g _ => simp [keyEq] at hkeq
                  | c c =>
                    cases c <;> simp only [keyEq, reduceCtorEq] at hkeq
                    rename_i q2 n2
                    split at hkeq
                    · rename_i hq
                      subst hq
                      simp only [Option.some.injEq, beq_iff_eq] at hkeq
                      subst hkeq
                      have h1 : me.key = .int q' n' := hce.1
                      rw [h0, h1]
                    · cases hkeq
                · right
                  intro q n hh
                  have h0 : e y = .string ⟨⟨s⟩⟩ := hk
                  rw [h0] at hh
                  cases hh
                · right
                  intro q n hh
                  obtain ⟨cs, hcs, _⟩ := hk
                  rw [hcs] at hh
                  cases hh
              refine ⟨?_, fun x hx => ?_, ?_⟩
              · have := h3.up
                rw [← List.pairwise_map (f := fun x : MapEntry => x.born) (R := fun a b => a < b)] at this ⊢
                rw [hmark]
                exact this
              · have : x.born ∈ (xs.modify i fun x => { x with key := e y, val := e z }).toList.map (fun x => x.born) := List.mem_map.2 ⟨x, hx, rfl⟩
                rw [hmark] at this
                obtain ⟨x0, hx0, hbx⟩ := List.mem_map.1 this
                rw [← hbx]
                exact h3.old x0 hx0
              · rw [hlist]
                rw [List.pairwise_iff_getElem]
                intro a b ha hb' hab q n hqa hqb
                have hap := List.pairwise_iff_getElem.1 h3.apart a b (by simpa using ha) (by simpa using hb') hab
                rw [List.getElem_set] at hqa hqb
                have hme' : ∀ (j : Nat) (hj : j < xs.toList.length), i = j → xs.toList[j] = me := fun j hj e => by
                  subst e
                  have := List.getElem?_eq_getElem hj
                  rw [hme] at this
                  cases this
                  rfl
                split at hqa
                · rename_i hia
                  rcases hkeys with hke | hke
                  · simp only at hqa
                    rw [hke, ← hme' a (by simpa using ha) hia] at hqa
                    rw [if_neg (by omega)] at hqb
                    exact hap q n hqa hqb
                  · exact hke q n hqa
                · split at hqb
                  · rename_i hib
                    rcases hkeys with hke | hke
                    · simp only at hqb
                      rw [hke, ← hme' b (by simpa using hb') hib] at hqb
                      exact hap q n hqa hqb
                    · exact hke q n hqb
                  · exact hap q n hqa hqb
            obtain ⟨a1, a2⟩ := map_put hr ho hl hnew hborn
            refine ⟨ρ, _, Go.undef, .inr ⟨?_, rfl⟩, Ren.le.refl _, New.refl _ _ _, a1, conV_undef _, a2, Nat.le_refl _⟩
            have hold : ((xs[i]?).map (·.key)).getD (e y) = me.key := by rw [hxi]; rfl
            simp only [execOp, hop, hu', Sem.run_bind, Instr.mapUpdate, run_underlying hun w, Result.andThen_ok, hgo, hck, hfk, hold, hst, hso, Sem.run_pure]
        · cases hv
    · cases hv
  · cases hv

theorem good_delete (F : Fits K P) (hr : Rep K ρ h w) {t kt' ty : TypeId} {m : C} {k : W} {u y : Value} (hm : Con ρ m u) (hk : ConW ρ k y) (hv : opDelete K h (mapTI K t) m k = some (v, h')) :
    ∃ w', (Builtin.delete_ #[t, kt'] ty #[u, y]).run P w = .ok Go.undef w' ∧ Rep K ρ h' w' ∧ ConV ρ v Go.undef ∧ Fr ρ h w ρ h' w' ∧ h'.next = h.next := by
  unfold opDelete at hv
  split at hv
  · rename_i kt et n hmt
    split at hv
    · rename_i es ho
      cases hb : keyT K 20 kt k with
      | false => rw [hb] at hv; cases hv
      | true =>
        rw [hb] at hv
        simp only [cond_true] at hv
        unfold putMap at hv
        split at hv
        · rename_i es' hdel
          cases hv
          have hun := mapTI_some F hmt
          obtain ⟨l, hl, xs, clock, h1, h2, h3⟩ := hr.obj n _ ho
          obtain ⟨l', hl', hu'⟩ := hm
          rw [hl] at hl'
          cases hl'
          have hck := keyT_run (w := w) F xs.isEmpty 20 kt k hb y hk 10000 (by decide)
          have hgo : (getObj l.blk).run P w = .ok (.map xs clock) w := by simp [getObj, Sem.run, h1]
          have hso : ∀ ob, (setObj l.blk ob).run P w = .ok () { w with heap := w.heap.setIfInBounds l.blk ob } := fun ob => by simp [setObj, Sem.run, h1]
          have hund : Go.undef = Value.tuple #[] := rfl
          rcases delK_placed hdel with ⟨hp, rfl⟩ | ⟨i, u', hp, hi, rfl⟩
          · obtain ⟨q, hfk, hc⟩ := findKey_run F hb hk hp h2 (w := w)
            have hq : q = none := by
              rcases hc with ⟨_, h0⟩ | ⟨i, v, y, h0, _⟩
              · exact h0
              · cases h0
            subst hq
            obtain ⟨a1, a2⟩ := map_put hr ho hl h2 h3
            refine ⟨_, ?_, a1, conV_undef _, a2, rfl⟩
            simp [Builtin.delete_, hu', run_underlying hun w, hgo, hck, hfk, hso, hund]
          · obtain ⟨q, hfk, hc⟩ := findKey_run F hb hk hp h2 (w := w)
            obtain ⟨yv, hq⟩ : ∃ yv, q = some (i, yv) := by
              rcases hc with ⟨h0, _⟩ | ⟨i', v, y, h0, hq, hcon⟩
              · cases h0
              · cases h0; exact ⟨y, hq⟩
            subst hq
            have hlen : es.length = xs.size := h2.length.trans Array.length_toList
            have hel : (xs.eraseIdxIfInBounds i).toList = xs.toList.eraseIdx i := by
              rw [Array.eraseIdxIfInBounds, dif_pos (by omega), Array.toList_eraseIdx]
            have hnew : All2 (ConE ρ) (es.eraseIdx i) (xs.eraseIdxIfInBounds i).toList := by
              rw [hel]
              exact h2.eraseIdx i
            have hsub := List.eraseIdx_sublist xs.toList i
            have hborn : Born (xs.eraseIdxIfInBounds i).toList clock := by
              rw [hel]
              exact ⟨h3.up.sublist hsub, fun x hx => h3.old x (hsub.subset hx), h3.apart.sublist hsub⟩
            obtain ⟨a1, a2⟩ := map_put hr ho hl hnew hborn
            refine ⟨_, ?_, a1, conV_undef _, a2, rfl⟩
            simp [Builtin.delete_, hu', run_underlying hun w, hgo, hck, hfk, hso, hund]
        · cases hv
    · cases hv
  · cases hv

theorem good_range (F : Fits K P) (hr : Rep K ρ h w) (hn : ρ h.next = none) (he : EvR K ρ ts e) {t : TypeId} {x : Operand} (hop : o.op = .range t x) (hv : opRangeT h (evalC K ts x) (mapTI K t) = some (v, h')) : Good K ρ h w v h' ((execOp e o).run P w) := by
  unfold opRangeT at hv
  split at hv
  · rename_i p hmt
    obtain ⟨kt, et⟩ := p
    have hun := mapTI_some F hmt
    unfold opRange at hv
    split at hv
    · rename_i hx
      cases hv
      have hb : e x = .map none := he.c hx
      refine good_new hr hn _ (room := 0) (w' := w.alloc (.mapIter none 0 #[] 0)) (fun k hk => heap_alloc_lt _ hk) (heap_alloc_le _) ?_ rfl rfl rfl (val := .pointer (some ⟨w.heap.size, 0, none⟩)) ⟨_, Ren.set_same _ _ _, by simp [Loc.at]⟩ ?_
      · intro ρ' _; exact ⟨rfl, 0, #[], 0, heap_alloc_at _⟩
      · simp [execOp, hop, hb, Instr.range, run_underlying hun w]
    · rename_i m hx
      split at hv
      · rename_i ho
        cases hv
        obtain ⟨l, hl, xs, clock, h1, h2, h3⟩ := hr.obj m _ ho
        obtain ⟨l', hl', hb⟩ := he.c hx
        rw [hl] at hl'
        cases hl'
        refine good_new hr hn _ (room := 0) (w' := w.alloc (.mapIter (some l.blk) clock #[] clock)) (fun k hk => heap_alloc_lt _ hk) (heap_alloc_le _) ?_ rfl rfl rfl (val := .pointer (some ⟨w.heap.size, 0, none⟩)) ⟨_, Ren.set_same _ _ _, by simp [Loc.at]⟩ ?_
        · intro ρ' hle; exact ⟨rfl, l, clock, #[], clock, hle _ _ hl, heap_alloc_at _⟩
        · have hgo : (getObj l.blk).run P w = .ok (.map xs clock) w := by simp [getObj, Sem.run, h1]
          simp [execOp, hop, hb, Instr.range, run_underlying hun w, hgo]
      · cases hv
    · cases hv
  · cases hv

theorem good_next (hr : Rep K ρ h w) (he : EvR K ρ ts e) {x : Operand} {b : Bool} (hop : o.op = .next x b) (hv : opNextB h (evalC K ts x) b = some (v, h')) : Good K ρ h w v h' ((execOp e o).run P w) := by
  unfold opNextB at hv
  split at hv
  · cases hi : iterOf h (evalC K ts x) with
    | none => rw [hi] at hv; simp [opNext] at hv
    | some m =>
      rw [hi] at hv
      unfold iterOf at hi
      split at hi
      · rename_i r hx
        split at hi
        · rename_i m' ho
          cases hi
          obtain ⟨l, hl, hor⟩ := hr.obj r _ ho
          obtain ⟨l', hl', hp⟩ := he.c hx
          rw [hl] at hl'
          cases hl'
          have hfin : ∀ m', ORel ρ w (.iter m') l → l.base = 0 := fun m' h0 => by cases m' <;> exact h0.1
          have hz := hfin _ hor
          have hp' : e x = .pointer (some ⟨l.blk, 0, none⟩) := by
            simpa [Loc.at, hz] using hp
          unfold opNext at hv
          split at hv
          · rename_i h0
            cases h0
            cases hv
            obtain ⟨_, s, c, k, hb⟩ := hor
            have hgo : (getObj l.blk).run P w = .ok (.mapIter none s c k) w := by simp [getObj, Sem.run, hb]
            refine Good.same hr (val := .tuple #[.bool false]) ?_ ⟨_, rfl, rfl, trivial⟩
            simp [execOp, hop, hp', Instr.next, hgo]
          · rename_i m0 h0
            cases h0
            split at hv
            · rename_i hom
              cases hv
              obtain ⟨_, lm, s, c, k, hlm, hb⟩ := hor
              obtain ⟨lm', hlm', xs, clock, h1, h2, h3⟩ := hr.obj m0 _ hom
              rw [hlm] at hlm'
              cases hlm'
              have hxs : xs = #[] := by
                have := h2.length
                simp at this
                exact Array.eq_empty_of_size_eq_zero this.symm
              subst hxs
              have hgo : (getObj l.blk).run P w = .ok (.mapIter (some lm.blk) s c k) w := by simp [getObj, Sem.run, hb]
              have hgo2 : (getObj lm.blk).run P w = .ok (.map #[] clock) w := by simp [getObj, Sem.run, h1]
              refine Good.same hr (val := .tuple #[.bool false]) ?_ ⟨_, rfl, rfl, trivial⟩
              simp [execOp, hop, hp', Instr.next, hgo, hgo2, choose, Sem.run, Question.forced]
            · cases hv
          · rename_i h0; cases h0
        · cases hi
      · cases hi
  · cases hv

end
end Go.Ev
