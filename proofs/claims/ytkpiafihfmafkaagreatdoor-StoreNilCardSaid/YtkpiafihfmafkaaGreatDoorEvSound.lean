/- The evaluator is right. -/
import Derived.Test.YtkpiafihfmafkaaGreatDoorEvCode
import Derived.Test.YtkpiafihfmafkaaGreatDoorEvLoop
namespace Go.Ev
open Go.RowKit

/-- What is asked of the functions that the evaluator knows by heart. -/
structure Hearts (K : Cfg) (P : Program) : Prop where
  clone : ∀ f, K.clones.contains f = true → Callable P f ∧ ∀ args h v h', opClone h args = some (.val v h') → ∀ ρ w vals r m, Rep K ρ h w → Dom ρ h.next → All2 (ConW ρ) args vals → CallsIn (Wd r) m P f vals.toArray w (PostV K ρ h w v h')
  sorted : ∀ f t, K.sorted.lookup f = some t → Callable P f ∧ ∀ args h v h', opSorted K h args = some (.val v h') → ∀ ρ w vals r m, Rep K ρ h w → Dom ρ h.next → All2 (ConW ρ) args vals → CallsIn (Wd r) m P f vals.toArray w (PostV K ρ h w v h')

section
variable {K : Cfg} {P : Program} {E : Task → Option Out} {ρ : Ren} {h h' : H} {w : World} {ts ts' : Tmps} {n : Nat} {o : Oper} {v : V}

theorem opClone_val {args : List W} {o : Out} (hv : opClone h args = some o) : ∃ v h', o = .val v h' := by
  unfold opClone at hv
  split at hv
  · cases hv; exact ⟨_, _, rfl⟩
  · split at hv
    · cases hv; exact ⟨_, _, rfl⟩
    · cases hv
  · cases hv
theorem opSorted_val {args : List W} {o : Out} (hv : opSorted K h args = some o) : ∃ v h', o = .val v h' := by
  unfold opSorted at hv
  split at hv
  · rename_i g a off
    cases hb : K.keys.contains g with
    | false => rw [hb] at hv; cases hv
    | true =>
      rw [hb] at hv
      simp only [cond_true] at hv
      split at hv
      · unfold sortedOf at hv
        split at hv
        · cases hv; exact ⟨_, _, rfl⟩
        · split at hv
          · unfold sortedRow at hv
            split at hv
            · cases hv; exact ⟨_, _, rfl⟩
            · rename_i l _ _
              cases hb2 : Nat.ble l.length 1000000 with
              | false => rw [hb2] at hv; cases hv
              | true => rw [hb2] at hv; cases hv; exact ⟨_, _, rfl⟩
            · cases hv
          · cases hv
        · cases hv
      · cases hv
  · cases hv
theorem finish_val {fn : Func} {oh : Option H} {o : Out} (hv : finish K fn ts oh = some o) : ∃ h1 vs, oh = some h1 ∧ resultsOf K h1 ts fn.results.toList = some vs ∧ o = .val (resultOf vs) h1 := by
  unfold finish at hv
  split at hv
  · rename_i h1
    split at hv
    · rename_i vs hvs
      cases hv
      exact ⟨h1, vs, rfl, hvs, rfl⟩
    · cases hv
  · cases hv

/-- A call. -/
theorem call_sound (F : Fits K P) (Hh : Hearts K P) (S : Sound K P E) {f : FuncId} {args : List W} {o : Out} (hv : evCall K E f args h = some o) : ∃ v h', o = .val v h' ∧ Callable P f ∧ ∀ ρ w vals r m, Rep K ρ h w → Dom ρ h.next → All2 (ConW ρ) args vals → CallsIn (Wd r) m P f vals.toArray w (PostV K ρ h w v h') := by
  unfold evCall at hv
  cases hc : K.clones.contains f with
  | true =>
    rw [hc] at hv
    simp only [cond_true] at hv
    obtain ⟨v, h', rfl⟩ := opClone_val hv
    obtain ⟨a, b⟩ := Hh.clone f hc
    exact ⟨v, h', rfl, a, b args h v h' hv⟩
  | false =>
    rw [hc] at hv
    simp only [cond_false] at hv
    split at hv
    · rename_i t hs
      obtain ⟨v, h', rfl⟩ := opSorted_val hv
      obtain ⟨a, b⟩ := Hh.sorted f t hs
      exact ⟨v, h', rfl, a, b args h v h' hv⟩
    · unfold enter at hv
      split at hv
      · rename_i fn hfn
        split at hv
        · rename_i body hbody
          cases hb : Nat.ble args.length fn.ntmps with
          | false => rw [hb] at hv; cases hv
          | true =>
            rw [hb] at hv
            simp only [cond_true] at hv
            have hle := ble_le hb
            have hcal : Callable P f := ⟨fn, F.funcs f fn hfn, by rw [hbody]; rfl, F.names f fn hfn⟩
            have key : ∀ x ds ts' h1, E (.code body fn.ntmps none [] (argTmps 0 args .nil) h) = some (.at x ds ts' h1) → (x = .normal ∨ x = .ret) → finish K fn ts' (takeMarks ds h1) = some o → ∃ v h', o = .val v h' ∧ Callable P f ∧ ∀ ρ w vals r m, Rep K ρ h w → Dom ρ h.next → All2 (ConW ρ) args vals → CallsIn (Wd r) m P f vals.toArray w (PostV K ρ h w v h') := by
              intro x ds ts' h1 hE hx hfin
              obtain ⟨h2, vs, htm, hres, rfl⟩ := finish_val hfin
              refine ⟨_, _, rfl, hcal, fun ρ w vals r m hr hd hall => ?_⟩
              have hcode := S.code _ _ _ _ _ _ _ _ _ _ hE ρ w { tmps := vals.toArray ++ Array.replicate (fn.ntmps - vals.toArray.size) Go.undef, defers := [] } none m hr hd (args_rel hall hle) trivial trivial
              have : CallsIn (Wd none) m P f vals.toArray w (PostV K ρ h w (resultOf vs) h2) := by
                refine callsIn_of_wp_marks (F.funcs f fn hfn) hbody trivial ?_
                refine wpIn_mono hcode ?_
                rintro e a w1 ⟨rfl, ρ1, aft1, tr1, mk1⟩
                have hl : LeavesInM (Wd none) m P fn a.tmps (PostV K ρ h w (resultOf vs) h2) a.defers .returning w1 := marks_leave F ds a.defers h1 ρ1 w1 htm mk1 aft1.rep tr1 hres (fun w' val aft2 hcon => ⟨ρ1, val, rfl, aft1.trans aft2, hcon⟩)
                rcases hx with rfl | rfl <;> exact hl
              exact this
            unfold leave at hv
            split at hv
            · rename_i ds ts' h1 hE
              exact key .normal ds ts' h1 hE (.inl rfl) hv
            · rename_i ds ts' h1 hE
              exact key .ret ds ts' h1 hE (.inr rfl) hv
            · cases hv
        · cases hv
      · cases hv

/-! ### Code -/
theorem thenCode_at {b : Code} {rd : Option Nat} {r : Option Out} {o : Out} (S : Sound K P E) {c : Code} {ds : List Nat} (hr : r = E (.code c n rd ds ts h)) (hv : thenCode E b n rd r = some o) :
    ∃ x ds1 ts1 h1, E (.code c n rd ds ts h) = some (.at x ds1 ts1 h1) ∧ ((x = .normal ∧ E (.code b n rd ds1 ts1 h1) = some o) ∨ (x ≠ .normal ∧ o = .at x ds1 ts1 h1)) := by
  subst hr
  cases hE : E (.code c n rd ds ts h) with
  | none => rw [hE] at hv; simp [thenCode] at hv
  | some o1 =>
    rw [hE] at hv
    rcases S.shape _ _ hE with ⟨_, _, _, _, _, e, _⟩ | ⟨_, _, _, _, _, _, x, ds1, ts1, h1, e, rfl⟩
    · cases e
    · refine ⟨x, ds1, ts1, h1, rfl, ?_⟩
      cases x with
      | normal => exact .inl ⟨rfl, hv⟩
      | exit id => simp only [thenCode, Option.some.injEq] at hv; exact .inr ⟨by simp, hv.symm⟩
      | ret => simp only [thenCode, Option.some.injEq] at hv; exact .inr ⟨by simp, hv.symm⟩

theorem exitOf_normal {x : X} (h : exitOf x = .normal) : x = .normal := by cases x <;> first | rfl | cases h

theorem resolve_range {a : Act} {g : Operand} {fn : Fn} {fa ca : Array Value} {l : Nat} {w : World} (hf : a.eval g = .func fn fa ca) : (resolve a.eval (rangeCall g l) 0).run P w = .ok { target := .fn fn ca, args := fa ++ #[.func (.yield l) #[] #[]] } w := by
  have h1 : (#[Operand.const (.func (.yield l) #[] #[])] : Array Operand).map a.eval = #[.func (.yield l) #[] #[]] := by
    apply Array.ext'
    simp only [Array.toList_map, List.map_cons, List.map_nil]
    rfl
  simp only [resolve, h1, hf, Deferred.ofValue, Sem.run_pure]
theorem rangePost_mono {F : Fence} {m l : Nat} {Q Q' : Exit → Act → World → Prop} {a : Act} {e : Ending} {w : World} (hq : ∀ e a w, Q e a w → Q' e a w) (h : rangePost F m P l Q a e w) : rangePost F m P l Q' a e w := by
  cases e with
  | returned v =>
    obtain ⟨jump, w4, h1, h2⟩ := h
    refine ⟨jump, w4, h1, ?_⟩
    cases jump with
    | none => exact hq _ _ _ h2
    | some c => exact wpIn_mono h2 hq
  | panicked ch => exact hq _ _ _ h
  | outgrown => obtain ⟨a', w', h1⟩ := h; exact ⟨a', w', hq _ _ _ h1⟩

/-- From the loop's record on. -/
theorem range_end (S : Sound K P E) {ps : List Tmp} {assign body : Code} {ds : List Nat} {f : FuncId} {first caps : List (Option (Nat × Nat))} {d : Nat} {o : Out} (hv : evRange2 E ps assign body n ds ts f first caps d h = some o) :
    ∃ x ds' ts' h', o = .at x ds' ts' h' ∧ ∀ (ρ : Ren) (ld : Loc) (w : World) (a : Act) (fn : FuncId) (r : Option Nat) (m : Nat) {fa ca : Array Value}, Rep K ρ h w → Dom ρ h.next → TRel ρ n ts a.tmps → All2 (ConQ ρ) first fa.toList → All2 (ConQ ρ) caps ca.toList → ρ d = some ld → Marks ρ ds a.defers →
      Callable P f ∧ CallsIn (Wd r) (m - 1) P f (fa ++ #[.func (.yield w.heap.size) #[] #[]] ++ ca) (w.alloc (.loop { state := .ready, pending := none, fn, tmps := a.tmps, params := ps.toArray, assign, body, defers := ld.blk })) (rangePost (Wd r) m P w.heap.size (PostC K ρ h w n x ds' ts' h') a) := by
  unfold evRange2 endLoop at hv
  split at hv
  · rename_i v h2 hE
    split at hv
    · rename_i ts' n' ps' as bd st pend d' ho
      obtain ⟨hcal, hcalls⟩ := S.call _ _ _ _ _ hE
      have hnb : st ≠ .busy := by intro e; rw [e] at hv; cases hv
      have hpend : ∃ x, pend = jumpOf x ∧ o = .at x ds ts (h2.put h.next (.loop ts' n' ps' as bd .exhausted pend d')) := by
        have hp : pending ds ts (h2.put h.next (.loop ts' n' ps' as bd .exhausted pend d')) pend = some o := by
          cases st <;> first | exact hv | exact absurd rfl hnb
        unfold pending at hp
        split at hp
        · cases hp; exact ⟨.normal, rfl, rfl⟩
        · cases hp; exact ⟨.exit _, rfl, rfl⟩
        · cases hp; exact ⟨.ret, rfl, rfl⟩
        · cases hp
      obtain ⟨x, hpx, rfl⟩ := hpend
      refine ⟨_, _, _, _, rfl, fun ρ ld w a fn r m fa ca hr hd ht hfa hca hld hm => ⟨hcal, ?_⟩⟩
      have hn : ρ h.next = none := hd _ (Nat.le_refl _)
      have hle := Ren.le_set hn ⟨w.heap.size, 0, 0⟩
      obtain ⟨b1, b2, b3⟩ := hr.new hn (.loop ts n ps assign body .ready none d) 0 (w' := w.alloc (.loop { state := .ready, pending := none, fn, tmps := a.tmps, params := ps.toArray, assign, body, defers := ld.blk })) (fun k hk => heap_alloc_lt _ hk) (heap_alloc_le _)
        ⟨_, heap_alloc_at _, rfl, rfl, ht.mono hle, by simp, rfl, rfl, ld, hle _ _ hld, rfl⟩ rfl rfl rfl
      have aft0 : Aft K ρ h w (ρ.set h.next ⟨w.heap.size, 0, 0⟩) (h.new (.loop ts n ps assign body .ready none d)) (w.alloc (.loop { state := .ready, pending := none, fn, tmps := a.tmps, params := ps.toArray, assign, body, defers := ld.blk })) := ⟨b3, New.set _ _ _, b1, b2, Nat.le_succ _⟩
      have hall : All2 (ConW (ρ.set h.next ⟨w.heap.size, 0, 0⟩)) (callArgs [.c (.yield h.next)] first caps) (fa.toList ++ [.func (.yield w.heap.size) #[] #[]] ++ ca.toList) :=
        ((ptrW_all (hfa.mono (fun _ _ => ConQ.mono hle))).append (show All2 (ConW (ρ.set h.next ⟨w.heap.size, 0, 0⟩)) [.c (.yield h.next)] [Value.func (.yield w.heap.size) #[] #[]] from ⟨⟨_, Ren.set_same _ _ _, rfl⟩, trivial⟩)).append (ptrW_all (hca.mono (fun _ _ => ConQ.mono hle)))
      have harr : (fa.toList ++ [Value.func (.yield w.heap.size) #[] #[]] ++ ca.toList).toArray = fa ++ #[.func (.yield w.heap.size) #[] #[]] ++ ca := by
        apply Array.ext'
        simp
      have hc := hcalls _ _ _ r (m - 1) aft0.rep (aft0.dom hd) hall
      rw [harr] at hc
      refine hc.mono ?_
      rintro e w' ⟨ρ', val, rfl, aft, hcon⟩
      obtain ⟨loc1, rec1, hl1, hb1, q1, q2, q3, q4, q5, q6, q7, afte⟩ := loop_put (st' := .exhausted) (pend' := pend) aft.rep ho
      have hl1' : loc1 = ⟨w.heap.size, 0, 0⟩ := by
        have := aft.le _ _ (Ren.set_same ρ h.next ⟨w.heap.size, 0, 0⟩)
        rw [hl1] at this
        cases this
        rfl
      subst hl1'
      refine ⟨pend, { w' with heap := w'.heap.setIfInBounds w.heap.size (.loop { rec1 with state := .exhausted, pending := pend }) }, ?_, ?_⟩
      · have hp : ({ rec1 with state := .exhausted } : Loop) = { rec1 with state := .exhausted, pending := pend } := by rw [← q2]
        have hbz : (rec1.state == .busy) = false := by
          rw [q1]
          cases st <;> first | rfl | exact absurd rfl hnb
        have hb1' : w'.heap[w.heap.size]? = some (.loop rec1) := hb1
        simp only [Instr.endLoop, Sem.run_bind, getLoop_run hb1', Result.andThen_ok, hbz, Bool.false_eq_true, if_false, setLoop_run hb1', Sem.run_pure, q2]
      · have hfin := (aft0.trans aft).trans afte
        have hpost : PostC K ρ h w n x ds ts (h2.put h.next (.loop ts' n' ps' as bd .exhausted pend d')) (exitOf x) a { w' with heap := w'.heap.setIfInBounds w.heap.size (.loop { rec1 with state := .exhausted, pending := pend }) } := ⟨rfl, ρ', hfin, ht.mono hfin.le, hm.mono hfin.le⟩
        rw [hpx] at hpost ⊢
        cases x with
        | normal => exact hpost
        | exit id => exact wpIn_exit hpost
        | ret => exact wpIn_ret hpost
    · cases hv
  · cases hv

theorem code_sound (F : Fits K P) (S : Sound K P E) (HD : DrawOk K P E) {c : Code} {rd : Option Nat} {ds : List Nat} {o : Out} (hv : evCode K E c n rd ds ts h = some o) :
    ∃ x ds' ts' h', o = .at x ds' ts' h' ∧ ∀ ρ w a r m, Rep K ρ h w → Dom ρ h.next → TRel ρ n ts a.tmps → Marks ρ ds a.defers → RdR ρ rd r → c.wpIn (Wd r) m P (PostC K ρ h w n x ds' ts' h') a w := by
  cases c with
  | skip =>
    have hv' : some (Out.at .normal ds ts h) = some o := hv
    cases hv'
    exact ⟨_, _, _, _, rfl, fun ρ w a r m hr hd ht hm hrd => wpIn_skip ⟨rfl, ρ, Aft.refl hr, ht, hm⟩⟩
  | label l =>
    have hv' : some (Out.at .normal ds ts h) = some o := hv
    cases hv'
    exact ⟨_, _, _, _, rfl, fun ρ w a r m hr hd ht hm hrd => wpIn_label ⟨rfl, ρ, Aft.refl hr, ht, hm⟩⟩
  | exit id =>
    have hv' : some (Out.at (.exit id) ds ts h) = some o := hv
    cases hv'
    exact ⟨_, _, _, _, rfl, fun ρ w a r m hr hd ht hm hrd => wpIn_exit ⟨rfl, ρ, Aft.refl hr, ht, hm⟩⟩
  | ret =>
    have hv' : some (Out.at .ret ds ts h) = some o := hv
    cases hv'
    exact ⟨_, _, _, _, rfl, fun ρ w a r m hr hd ht hm hrd => wpIn_ret ⟨rfl, ρ, Aft.refl hr, ht, hm⟩⟩
  | seq x y =>
    obtain ⟨e1, ds1, ts1, h1, hE, hcase⟩ := thenCode_at S rfl (show thenCode E y n rd (E (.code x n rd ds ts h)) = some o from hv)
    rcases hcase with ⟨rfl, hE2⟩ | ⟨hne, rfl⟩
    · rcases S.shape _ _ hE2 with ⟨_, _, _, _, _, e, _⟩ | ⟨_, _, _, _, _, _, x2, ds2, ts2, h2, _, rfl⟩
      · cases e
      · refine ⟨_, _, _, _, rfl, fun ρ w a r m hr hd ht hm hrd => wpIn_seq ?_⟩
        refine wpIn_mono (S.code _ _ _ _ _ _ _ _ _ _ hE ρ w a r m hr hd ht hm hrd) ?_
        rintro e a1 w1 ⟨rfl, ρ1, aft1, tr1, mk1⟩
        show y.wpIn (Wd r) m P _ a1 w1
        refine wpIn_mono (S.code _ _ _ _ _ _ _ _ _ _ hE2 ρ1 w1 a1 r m aft1.rep (aft1.dom hd) tr1 mk1 (hrd.mono aft1.le)) ?_
        rintro e a2 w2 ⟨rfl, ρ2, aft2, tr2, mk2⟩
        exact ⟨rfl, ρ2, aft1.trans aft2, tr2, mk2⟩
    · refine ⟨_, _, _, _, rfl, fun ρ w a r m hr hd ht hm hrd => wpIn_seq ?_⟩
      refine wpIn_mono (S.code _ _ _ _ _ _ _ _ _ _ hE ρ w a r m hr hd ht hm hrd) ?_
      rintro e a1 w1 ⟨rfl, rest⟩
      cases e1 with
      | normal => exact absurd rfl hne
      | exit id => exact ⟨rfl, rest⟩
      | ret => exact ⟨rfl, rest⟩
  | cond c x y =>
    have hv' : evCond E x y n rd ds ts h (evalC K ts c) = some o := hv
    unfold evCond at hv'
    split at hv'
    · rename_i hc
      rcases S.shape _ _ hv' with ⟨_, _, _, _, _, e, _⟩ | ⟨_, _, _, _, _, _, x2, ds2, ts2, h2, _, rfl⟩
      · cases e
      · refine ⟨_, _, _, _, rfl, fun ρ w a r m hr hd ht hm hrd => wpIn_cond_true ((evR_of hr ht).c hc) ?_⟩
        exact S.code _ _ _ _ _ _ _ _ _ _ hv' ρ w a r m hr hd ht hm hrd
    · rename_i hc
      rcases S.shape _ _ hv' with ⟨_, _, _, _, _, e, _⟩ | ⟨_, _, _, _, _, _, x2, ds2, ts2, h2, _, rfl⟩
      · cases e
      · refine ⟨_, _, _, _, rfl, fun ρ w a r m hr hd ht hm hrd => wpIn_cond_false ((evR_of hr ht).c hc) ?_⟩
        exact S.code _ _ _ _ _ _ _ _ _ _ hv' ρ w a r m hr hd ht hm hrd
    · cases hv'
  | block id b =>
    have hv' : inBlock id (E (.code b n rd ds ts h)) = some o := hv
    cases hE : E (.code b n rd ds ts h) with
    | none => rw [hE] at hv'; simp [inBlock] at hv'
    | some o1 =>
      rw [hE] at hv'
      rcases S.shape _ _ hE with ⟨_, _, _, _, _, e, _⟩ | ⟨_, _, _, _, _, _, x1, ds1, ts1, h1, _, rfl⟩
      · cases e
      · cases x1 with
        | normal =>
          simp only [inBlock, Option.some.injEq] at hv'
          subst hv'
          refine ⟨_, _, _, _, rfl, fun ρ w a r m hr hd ht hm hrd => wpIn_block ?_⟩
          refine wpIn_mono (S.code _ _ _ _ _ _ _ _ _ _ hE ρ w a r m hr hd ht hm hrd) ?_
          rintro e a1 w1 ⟨rfl, rest⟩
          exact ⟨rfl, rest⟩
        | ret =>
          simp only [inBlock, Option.some.injEq] at hv'
          subst hv'
          refine ⟨_, _, _, _, rfl, fun ρ w a r m hr hd ht hm hrd => wpIn_block ?_⟩
          refine wpIn_mono (S.code _ _ _ _ _ _ _ _ _ _ hE ρ w a r m hr hd ht hm hrd) ?_
          rintro e a1 w1 ⟨rfl, rest⟩
          exact ⟨rfl, rest⟩
        | exit id' =>
          simp only [inBlock] at hv'
          cases hb : Nat.beq id' id with
          | true =>
            rw [hb] at hv'
            simp only [cond_true, Option.some.injEq] at hv'
            subst hv'
            have hid := Nat.eq_of_beq_eq_true hb
            subst hid
            refine ⟨_, _, _, _, rfl, fun ρ w a r m hr hd ht hm hrd => wpIn_block ?_⟩
            refine wpIn_mono (S.code _ _ _ _ _ _ _ _ _ _ hE ρ w a r m hr hd ht hm hrd) ?_
            rintro e a1 w1 ⟨rfl, rest⟩
            show Exit.inBlock id' _ (.exit id') a1 w1
            simp only [Exit.inBlock, if_true]
            exact ⟨rfl, rest⟩
          | false =>
            rw [hb] at hv'
            simp only [cond_false, Option.some.injEq] at hv'
            subst hv'
            have hne : ¬ id' = id := fun e => by subst e; rw [Nat.beq_refl] at hb; cases hb
            refine ⟨_, _, _, _, rfl, fun ρ w a r m hr hd ht hm hrd => wpIn_block ?_⟩
            refine wpIn_mono (S.code _ _ _ _ _ _ _ _ _ _ hE ρ w a r m hr hd ht hm hrd) ?_
            rintro e a1 w1 ⟨rfl, rest⟩
            show Exit.inBlock id _ (.exit id') a1 w1
            simp only [Exit.inBlock, if_neg hne]
            exact ⟨rfl, rest⟩
  | region id ops d =>
    cases d with
    | true =>
      have hv' : outAt ds (evDraw K E ops.toList n ts h) = some o := hv
      unfold outAt at hv'
      split at hv'
      · rename_i ts1 h1 hE
        cases hv'
        refine ⟨_, _, _, _, rfl, fun ρ w a r m hr hd ht hm hrd => ?_⟩
        refine HD id ops n ts ts1 h h1 ρ w a r m _ hE hr hd ht (fun ρ' a' w' aft tr df => ⟨rfl, ρ', aft, tr, ?_⟩)
        rw [df]; exact hm.mono aft.le
      · cases hv'
    | false =>
      have hv' : outAt ds (evOps K E ops.toList n ops.toList ts h) = some o := hv
      unfold outAt at hv'
      split at hv'
      · rename_i ts1 h1 hE
        cases hv'
        refine ⟨_, _, _, _, rfl, fun ρ w a r m hr hd ht hm hrd => wpIn_region_list ?_⟩
        refine ops_sound F S ops.toList ts h ρ w a hE hr hd ht (fun ρ' a' w' aft tr df => ⟨rfl, ρ', aft, tr, ?_⟩)
        rw [df]; exact hm.mono aft.le
      · cases hv'
  | loop b =>
    obtain ⟨e1, ds1, ts1, h1, hE, hcase⟩ := thenCode_at S rfl (show thenCode E (.loop b) n rd (E (.code b n rd ds ts h)) = some o from hv)
    have hQ : ∀ ρ w x ds' ts' h', ∀ e a' w', PostC K ρ h w n x ds' ts' h' e a' w' → e = .normal ∨ (∃ id, e = .exit id) ∨ e = .ret := by
      rintro ρ w x ds' ts' h' e a' w' ⟨rfl, _⟩
      cases x with
      | normal => exact .inl rfl
      | exit id => exact .inr (.inl ⟨id, rfl⟩)
      | ret => exact .inr (.inr rfl)
    rcases hcase with ⟨rfl, hE2⟩ | ⟨hne, rfl⟩
    · rcases S.shape _ _ hE2 with ⟨_, _, _, _, _, e, _⟩ | ⟨_, _, _, _, _, _, x2, ds2, ts2, h2, _, rfl⟩
      · cases e
      · refine ⟨_, _, _, _, rfl, fun ρ w a r m hr hd ht hm hrd => wpIn_unroll (hQ _ _ _ _ _ _) ?_⟩
        refine wpIn_mono (S.code _ _ _ _ _ _ _ _ _ _ hE ρ w a r m hr hd ht hm hrd) ?_
        rintro e a1 w1 ⟨rfl, ρ1, aft1, tr1, mk1⟩
        show (Code.loop b).wpIn (Wd r) m P _ a1 w1
        refine wpIn_mono (S.code _ _ _ _ _ _ _ _ _ _ hE2 ρ1 w1 a1 r m aft1.rep (aft1.dom hd) tr1 mk1 (hrd.mono aft1.le)) ?_
        rintro e a2 w2 ⟨rfl, ρ2, aft2, tr2, mk2⟩
        exact ⟨rfl, ρ2, aft1.trans aft2, tr2, mk2⟩
    · refine ⟨_, _, _, _, rfl, fun ρ w a r m hr hd ht hm hrd => wpIn_unroll (hQ _ _ _ _ _ _) ?_⟩
      refine wpIn_mono (S.code _ _ _ _ _ _ _ _ _ _ hE ρ w a r m hr hd ht hm hrd) ?_
      rintro e a1 w1 ⟨rfl, rest⟩
      cases e1 with
      | normal => exact absurd rfl hne
      | exit id => exact ⟨rfl, rest⟩
      | ret => exact ⟨rfl, rest⟩
  | rangeFunc g ps assign body =>
    have hv' : evRange E ps.toList assign body n rd ds ts h (evalC K ts g) = some o := hv
    unfold evRange at hv'
    split at hv'
    · rename_i f first caps hg
      unfold evRange1 at hv'
      split at hv'
      · -- an outermost loop
        obtain ⟨x, ds', ts', h', rfl, hpost⟩ := range_end S hv'
        refine ⟨_, _, _, _, rfl, fun ρ w a r m hr hd ht hm hrd => ?_⟩
        have hr0 : r = none := by
          cases r with
          | none => rfl
          | some b => exact hrd.elim
        subst hr0
        have hn : ρ h.next = none := hd _ (Nat.le_refl _)
        obtain ⟨b1, b2, b3⟩ := hr.new hn .defers 0 (w' := w.alloc (.deferred (some []))) (fun k hk => heap_alloc_lt _ hk) (heap_alloc_le _) (heap_alloc_at _) rfl rfl rfl
        have aft0 : Aft K ρ h w (ρ.set h.next ⟨w.heap.size, 0, 0⟩) (h.new .defers) (w.alloc (.deferred (some []))) := ⟨b3, New.set _ _ _, b1, b2, Nat.le_succ _⟩
        refine wpIn_rangeFunc (fun fn _ => ?_)
        obtain ⟨fa, ca, hfv, q1, q2⟩ := (evR_of hr ht).c hg
        obtain ⟨hcal, hrest⟩ := hpost _ _ (w.alloc (.deferred (some []))) { a with defers := { target := .collected w.heap.size, args := #[] } :: a.defers } fn none m aft0.rep (aft0.dom hd) (ht.mono aft0.le) (q1.mono (fun _ _ => ConQ.mono aft0.le)) (q2.mono (fun _ _ => ConQ.mono aft0.le)) (Ren.set_same _ _ _) ⟨⟨_, Ren.set_same _ _ _, rfl⟩, hm.mono aft0.le⟩
        refine ⟨(w.alloc (.deferred (some []))).heap.size, [{ target := .collected w.heap.size, args := #[] }], (w.alloc (.deferred (some []))).alloc (.loop { state := .ready, pending := none, fn, tmps := a.tmps, params := ps.toList.toArray, assign, body, defers := w.heap.size }), { target := .fn (.func f) ca, args := fa ++ #[.func (.yield (w.alloc (.deferred (some []))).heap.size) #[] #[]] }, (w.alloc (.deferred (some []))).alloc (.loop { state := .ready, pending := none, fn, tmps := a.tmps, params := ps.toList.toArray, assign, body, defers := w.heap.size }), f, fa ++ #[.func (.yield (w.alloc (.deferred (some []))).heap.size) #[] #[]] ++ ca, (w.alloc (.deferred (some []))).alloc (.loop { state := .ready, pending := none, fn, tmps := a.tmps, params := ps.toList.toArray, assign, body, defers := w.heap.size }), ?_, ?_, fun _ _ => trivial, ?_, fun hh => by simp [Wd, Fence.wide] at hh, ?_⟩
        rotate_left 3
        · refine hrest.mono ?_
          intro e w' hp
          refine rangePost_mono ?_ hp
          rintro e a' w'' ⟨rfl, ρ', aft, tr, mk⟩
          exact ⟨rfl, ρ', aft0.trans aft, tr, mk⟩
        · simp [Instr.enterLoop, Wd, Fence.wide]
        · exact resolve_range hfv
        · exact callFunc_enter hcal _ _
      · rename_i l
        split at hv'
        · rename_i lts ln lps las lbd lst lpend d ho
          obtain ⟨x, ds', ts', h', rfl, hpost⟩ := range_end S hv'
          refine ⟨_, _, _, _, rfl, fun ρ w a r m hr hd ht hm hrd => ?_⟩
          obtain ⟨b, rfl, loc, hloc, rfl⟩ : ∃ b, r = some b ∧ ∃ loc, ρ l = some loc ∧ b = loc.blk := by
            cases r with
            | none => exact hrd.elim
            | some b => obtain ⟨loc, e1, e2⟩ := hrd; exact ⟨b, rfl, loc, e1, e2⟩
          obtain ⟨loc', rec, hl', hb, r1, r2, r3, r4, r5, r6, ⟨ld, hld, hdf⟩, _⟩ := loop_put (st' := lst) (pend' := lpend) hr ho
          rw [hloc] at hl'
          cases hl'
          refine wpIn_rangeFunc (fun fn _ => ?_)
          obtain ⟨fa, ca, hfv, q1, q2⟩ := (evR_of hr ht).c hg
          obtain ⟨hcal, hrest⟩ := hpost ρ _ w a fn (some loc.blk) m hr hd ht q1 q2 hld hm
          refine ⟨w.heap.size, [], w.alloc (.loop { state := .ready, pending := none, fn, tmps := a.tmps, params := ps.toList.toArray, assign, body, defers := ld.blk }), { target := .fn (.func f) ca, args := fa ++ #[.func (.yield w.heap.size) #[] #[]] }, w.alloc (.loop { state := .ready, pending := none, fn, tmps := a.tmps, params := ps.toList.toArray, assign, body, defers := ld.blk }), f, fa ++ #[.func (.yield w.heap.size) #[] #[]] ++ ca, w.alloc (.loop { state := .ready, pending := none, fn, tmps := a.tmps, params := ps.toList.toArray, assign, body, defers := ld.blk }), ?_, ?_, fun _ _ => trivial, ?_, fun hh => by simp [Wd, Fence.wide] at hh, ?_⟩
          rotate_left 3
          · exact hrest
          · simp [Instr.enterLoop, Wd, getLoop_run hb, hdf]
          · exact resolve_range hfv
          · exact callFunc_enter hcal _ _
        · cases hv'
    · cases hv'
  | scope b => cases hv
  | goto l => cases hv
  | refuse s => cases hv

theorem step_sound (F : Fits K P) (Hh : Hearts K P) (S : Sound K P E) (HD : DrawOk K P E) : Sound K P (step K E) := by
  refine ⟨fun f args h v h' hv => ?_, fun c n rd ds ts h x ds' ts' h' hv => ?_, fun t o hv => ?_⟩
  · obtain ⟨v1, h1, e, hcal, hc⟩ := call_sound F Hh S (show evCall K E f args h = some (.val v h') from hv)
    cases e
    exact ⟨hcal, hc⟩
  · obtain ⟨x1, ds1, ts1, h1, e, hc⟩ := code_sound F S HD (show evCode K E c n rd ds ts h = some (.at x ds' ts' h') from hv)
    cases e
    exact hc
  · cases t with
    | call f args h =>
      obtain ⟨v1, h1, rfl, _⟩ := call_sound F Hh S (show evCall K E f args h = some o from hv)
      exact .inl ⟨_, _, _, _, _, rfl, rfl⟩
    | code c n rd ds ts h =>
      obtain ⟨x1, ds1, ts1, h1, rfl, hc⟩ := code_sound F S HD (show evCode K E c n rd ds ts h = some o from hv)
      exact .inr ⟨_, _, _, _, _, _, _, _, _, _, rfl, rfl⟩

theorem ev_sound (F : Fits K P) (Hh : Hearts K P) (HD : ∀ E, Sound K P E → DrawOk K P E) : ∀ f, Sound K P (ev K f)
  | 0 => ⟨fun _ _ _ _ _ hv => (by cases hv), fun _ _ _ _ _ _ _ _ _ _ hv => (by cases hv), fun _ _ hv => (by cases hv)⟩
  | f + 1 => step_sound F Hh (ev_sound F Hh HD f) (HD _ (ev_sound F Hh HD f))

end
end Go.Ev
