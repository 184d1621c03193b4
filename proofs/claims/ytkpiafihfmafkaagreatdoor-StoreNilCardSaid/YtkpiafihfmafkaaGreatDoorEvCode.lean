/- Code: what the evaluator says of it is so. -/
import Derived.Test.YtkpiafihfmafkaaGreatDoorEvCall
namespace Go.Ev
open Go.RowKit

section
variable {K : Cfg} {P : Program} {E : Task → Option Out} {ρ : Ren} {h h' : H} {w : World} {ts ts' : Tmps} {n : Nat} {o : Oper} {v : V}

theorem evOps_nil (all : List Oper) (ts : Tmps) (h : H) : evOps K E all n [] ts h = some (ts, h) := rfl
theorem evOps_cons (all : List Oper) (o : Oper) (l : List Oper) (ts : Tmps) (h : H) : evOps K E all n (o :: l) ts h = match evOne K E all n ts h o with
    | some (ts', h') => evOps K E all n l ts' h'
    | none => none := by
  have e : evOps K E all n (o :: l) ts h = Option.rec (motive := fun _ => Option (Tmps × H)) none (fun p => evOps K E all n l p.1 p.2) (evOne K E all n ts h o) := rfl
  rw [e]
  cases evOne K E all n ts h o with
  | none => rfl
  | some p => rfl

/-- One operation of a region. -/
theorem one_sound (F : Fits K P) (S : Sound K P E) {ops : Array Oper} (hr : Rep K ρ h w) (hd : Dom ρ h.next) {a : Act} (ht : TRel ρ n ts a.tmps) (hv : evOne K E ops.toList n ts h o = some (ts', h')) {next : Act → World → Prop} {Q : Exit → Act → World → Prop} {r : Option Nat} {m : Nat}
    (hnext : ∀ ρ' a' w', Aft K ρ h w ρ' h' w' → TRel ρ' n ts' a'.tmps → a'.defers = a.defers → next a' w') :
    if Region.wanted o (yielded ops a.tmps) then o.wpIn (Wd r) m P a w next Q else (∀ f, o.about P w a.eval = some f → (Wd r).fn f) ∧ next (a.put o.dst Go.undef) w := by
  unfold evOne at hv
  rw [wanted_eq ht ops o] at hv
  cases hw : Region.wanted o (yielded ops a.tmps) with
  | true =>
    rw [hw] at hv
    simp only [cond_true] at hv
    simp only [if_true]
    cases hev : evAny K E ts h o.op with
    | none => rw [hev] at hv; simp [putTH] at hv
    | some p =>
      obtain ⟨v, h1⟩ := p
      rw [hev] at hv
      simp only [putTH] at hv
      split at hv
      · rename_i ts1 hp
        cases hv
        refine any_sound F S hr hd ht hev (fun ρ' val w' haft hcon => ?_)
        exact hnext ρ' _ w' haft ((ht.mono haft.le).put hcon hp) (put_defers _ _ _)
      · cases hv
  | false =>
    rw [hw] at hv
    simp only [cond_false, putTH] at hv
    simp only [Bool.false_eq_true, if_false]
    split at hv
    · rename_i ts1 hp
      cases hv
      exact ⟨fun _ _ => trivial, hnext ρ _ w (Aft.refl hr) (ht.put (conV_undef ρ) hp) (put_defers _ _ _)⟩
    · cases hv

theorem ops_sound (F : Fits K P) (S : Sound K P E) {ops : Array Oper} {Q : Exit → Act → World → Prop} {r : Option Nat} {m : Nat} : ∀ (l : List Oper) (ts : Tmps) (h : H) (ρ : Ren) (w : World) (a : Act), evOps K E ops.toList n l ts h = some (ts', h') → Rep K ρ h w → Dom ρ h.next → TRel ρ n ts a.tmps →
    (∀ ρ' a' w', Aft K ρ h w ρ' h' w' → TRel ρ' n ts' a'.tmps → a'.defers = a.defers → Q .normal a' w') → wpListIn (Wd r) m P ops Q l a w
  | [], ts, h, ρ, w, a, hv, hr, hd, ht, hq => by
    rw [evOps_nil] at hv
    cases hv
    exact wpListIn_nil (hq ρ a w (Aft.refl hr) ht rfl)
  | o :: l, ts, h, ρ, w, a, hv, hr, hd, ht, hq => by
    rw [evOps_cons] at hv
    split at hv
    · rename_i ts1 h1 h1e
      refine wpListIn_step (fun Kn hK => ?_)
      refine one_sound F S hr hd ht h1e (fun ρ1 a1 w1 aft1 tr1 df1 => hK _ _ ?_)
      refine ops_sound F S l ts1 h1 ρ1 w1 a1 hv aft1.rep (aft1.dom hd) tr1 (fun ρ2 a2 w2 aft2 tr2 df2 => ?_)
      exact hq ρ2 a2 w2 (aft1.trans aft2) tr2 (df2.trans df1)
    · cases hv

/-- What is asked of a region that draws its order. -/
def DrawOk (K : Cfg) (P : Program) (E : Task → Option Out) : Prop := ∀ (id : Nat) (ops : Array Oper) (n : Nat) (ts ts' : Tmps) (h h' : H) (ρ : Ren) (w : World) (a : Act) (r : Option Nat) (m : Nat) (Q : Exit → Act → World → Prop),
  evDraw K E ops.toList n ts h = some (ts', h') → Rep K ρ h w → Dom ρ h.next → TRel ρ n ts a.tmps → (∀ ρ' a' w', Aft K ρ h w ρ' h' w' → TRel ρ' n ts' a'.tmps → a'.defers = a.defers → Q .normal a' w') → (Code.region id ops true).wpIn (Wd r) m P Q a w

/-! ### Functions -/
def resOne (tmps : Array Value) : ResultVar → Sem Value
  | .tmp t => pure (tmps.getD t Go.undef)
  | .cell a t => do loadVar t (← asAddr (tmps.getD a Go.undef))

theorem results_list (F : Fits K P) (hr : Rep K ρ h w) {tmps : Array Value} (ht : TRel ρ n ts tmps) : ∀ (l : List ResultVar) (vs : List W), resultsOf K h ts l = some vs → ∃ us : List Value, (l.mapM (resOne tmps)).run P w = .ok us w ∧ All2 (ConW ρ) vs us
  | [], vs, hv => by
    simp [resultsOf] at hv
    subst hv
    exact ⟨[], by simp, trivial⟩
  | .tmp t :: l, vs, hv => by
    simp only [resultsOf] at hv
    split at hv
    · cases hv
    · rename_i x hx
      split at hv
      · cases hv
      · rename_i vs' hvs
        cases hv
        obtain ⟨us, h1, h2⟩ := results_list F hr ht l vs' hvs
        have hc : ConW ρ x (tmps.getD t Go.undef) := by
          have h0 := ht.2 t
          unfold evalW asW at hx
          split at hx
          · rename_i u hu
            cases hx
            have hu' : evalT ts t = V.w x := by
              have : some (evalT ts t) = some (V.w x) := hu
              injection this
            rw [hu'] at h0
            exact h0
          · cases hx
        refine ⟨tmps.getD t Go.undef :: us, ?_, hc, h2⟩
        rw [List.mapM_cons]
        simp only [resOne, Sem.run_bind, Sem.run_pure, Result.andThen_ok, h1]
  | .cell a ty :: l, vs, hv => by
    simp only [resultsOf] at hv
    split at hv
    · rename_i m off hm
      split at hv
      · cases hv
      · rename_i x hx
        split at hv
        · cases hv
        · rename_i vs' hvs
          cases hv
          obtain ⟨us, h1, h2⟩ := results_list F hr ht l vs' hvs
          have hc : ConV ρ (.w (.c (.ptr m off))) (tmps.getD a Go.undef) := by
            have h0 := ht.2 a
            unfold evalC asC at hm
            split at hm
            · rename_i u hu
              cases hm
              have hu' : evalT ts a = V.w (.c (.ptr m off)) := by
                have : some (evalT ts a) = some (V.w (.c (.ptr m off))) := hu
                injection this
              rw [hu'] at h0
              exact h0
            · cases hm
          obtain ⟨lc, hl, hp⟩ := hc
          obtain ⟨u, hu, hcon⟩ := load_run F hr hl hx
          refine ⟨u :: us, ?_, hcon, h2⟩
          rw [List.mapM_cons]
          simp only [resOne, hp, asAddr, Sem.run_bind, Sem.run_pure, Result.andThen_ok, hu, h1]
    · cases hv

theorem results_run (F : Fits K P) (hr : Rep K ρ h w) {tmps : Array Value} (ht : TRel ρ n ts tmps) {fn : Func} {vs : List W} (hv : resultsOf K h ts fn.results.toList = some vs) : ∃ val, (results fn tmps).run P w = .ok val w ∧ ConV ρ (resultOf vs) val := by
  obtain ⟨us, h1, h2⟩ := results_list F hr ht _ vs hv
  have hm : (fn.results.mapM (resOne tmps)).run P w = .ok us.toArray w := by
    rw [Array.mapM_eq_mapM_toList, map_eq_pure_bind, Sem.run_bind, h1, Result.andThen_ok, Sem.run_pure]
  have he : results fn tmps = (do
      let vs ← fn.results.mapM (resOne tmps)
      pure (if h : vs.size = 1 then vs[0] else .tuple vs)) := by
    unfold results
    congr 1
  rw [he, Sem.run_bind, hm, Result.andThen_ok, Sem.run_pure]
  refine ⟨_, rfl, ?_⟩
  cases vs with
  | nil =>
    cases us with
    | nil => exact ⟨#[], by simp, trivial⟩
    | cons _ _ => exact h2.elim
  | cons x vs =>
    cases us with
    | nil => exact h2.elim
    | cons u us =>
      cases vs with
      | nil =>
        cases us with
        | nil => exact h2.1
        | cons _ _ => exact h2.2.elim
      | cons y vs =>
        cases us with
        | nil => exact h2.2.elim
        | cons u' us =>
          refine ⟨(u :: u' :: us).toArray, ?_, h2⟩
          rw [dif_neg (by simp)]

/-- The marks are taken, one behind the other. -/
theorem marks_leave (F : Fits K P) {fn : Func} {tmps : Array Value} {vs : List W} {R : Ending → World → Prop} {r : Option Nat} {m : Nat} : ∀ (ds : List Nat) (dl : List Deferred) (h : H) (ρ : Ren) (w : World), takeMarks ds h = some h' → Marks ρ ds dl → Rep K ρ h w → TRel ρ n ts tmps → resultsOf K h' ts fn.results.toList = some vs →
    (∀ w' val, Aft K ρ h w ρ h' w' → ConV ρ (resultOf vs) val → R (.returned val) w') → LeavesInM (Wd r) m P fn tmps R dl .returning w
  | [], dl, h, ρ, w, ht, hm, hr, htr, hv, hR => by
    cases dl with
    | cons _ _ => exact hm.elim
    | nil =>
      simp [takeMarks] at ht
      subst ht
      obtain ⟨val, h1, h2⟩ := results_run F hr htr hv
      exact ⟨val, h1, hR w val (Aft.refl hr) h2⟩
  | d :: ds, dl, h, ρ, w, ht, hm, hr, htr, hv, hR => by
    cases dl with
    | nil => exact hm.elim
    | cons df dl =>
      obtain ⟨⟨l, hl, rfl⟩, hm'⟩ := hm
      simp only [takeMarks] at ht
      split at ht
      · rename_i ho
        obtain ⟨l', hl', hor⟩ := hr.obj d _ ho
        rw [hl] at hl'
        cases hl'
        have hlt := hor.lt
        have hb : w.heap[l.blk]? = some (.deferred (some [])) := hor
        let w1 : World := { w with heap := w.heap.setIfInBounds l.blk (.deferred none) }
        have hrun : (Instr.takeDeferred l.blk).run P w = .ok [] w1 := by
          simp [Instr.takeDeferred, getObj, setObj, Sem.run, hb, w1]
        -- the block is no object any more
        have haft : Aft K ρ h w ρ (h.del d) w1 := by
          have hsub : ∀ m x, (h.del d).get m = some x → m ≠ d ∧ h.get m = some x := fun m x hx => by
            rw [H.get_del] at hx
            split at hx
            · cases hx
            · rename_i e; exact ⟨e, hx⟩
          refine ⟨Ren.le.refl _, New.refl _ _ _, ⟨hr.glob, fun m x hx => ?_, fun m m' x x' lm lm' hne hx hx' => hr.inj m m' x x' lm lm' hne (hsub m x hx).2 (hsub m' x' hx').2⟩, ⟨rfl, rfl, rfl, by simp [w1], fun k hk hn => ?_, fun k hk => ?_, fun m x hx _ => (hsub m x hx).2⟩, Nat.le_refl _⟩
          · obtain ⟨e, hx'⟩ := hsub m x hx
            obtain ⟨lm, hlm, hrm⟩ := hr.obj m x hx'
            refine ⟨lm, hlm, hrm.congr ?_⟩
            have hne := hr.inj m d x _ lm l e hx' ho hlm hl
            simp [w1, Ne.symm hne]
          · have hne : k ≠ l.blk := fun e => hn ⟨d, _, l, ho, rfl, hl, e.symm⟩
            simp [w1, Ne.symm hne]
          · obtain ⟨m, x, lm, hx, r⟩ := hk
            exact .inr ⟨m, x, lm, (hsub m x hx).2, r⟩
        refine ⟨by simp, .inl ⟨l.blk, w1, rfl, hrun, ?_⟩⟩
        exact marks_leave F ds dl (h.del d) ρ w1 ht hm' haft.rep htr hv (fun w' val ha hc => hR w' val (haft.trans ha) hc)
      · cases ht

end
end Go.Ev
