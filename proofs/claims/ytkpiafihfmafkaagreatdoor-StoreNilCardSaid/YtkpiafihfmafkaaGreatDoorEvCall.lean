/- Calls and rounds as operations. -/
import Derived.Test.YtkpiafihfmafkaaGreatDoorEvFrame
namespace Go.Ev
open Go.RowKit

/-- Behind a call. -/
def PostV (K : Cfg) (ρ : Ren) (h : H) (w : World) (v : V) (h' : H) : Ending → World → Prop := fun e w' => ∃ ρ' val, e = .returned val ∧ Aft K ρ h w ρ' h' w' ∧ ConV ρ' v val

def exitOf : X → Exit
  | .normal => .normal
  | .exit id => .exit id
  | .ret => .ret
def Marks (ρ : Ren) : List Nat → List Deferred → Prop := All2 (fun d df => ∃ l, ρ d = some l ∧ df = { target := .collected l.blk, args := #[] })
theorem Marks.mono {ρ ρ' : Ren} (h : Ren.le ρ ρ') {ds : List Nat} {l : List Deferred} (m : Marks ρ ds l) : Marks ρ' ds l := All2.mono (fun _ _ ⟨l, e, r⟩ => ⟨l, h _ _ e, r⟩) m
/-- Behind code. -/
def PostC (K : Cfg) (ρ : Ren) (h : H) (w : World) (n : Nat) (x : X) (ds : List Nat) (ts : Tmps) (h' : H) : Exit → Act → World → Prop := fun e a w' =>
  e = exitOf x ∧ ∃ ρ', Aft K ρ h w ρ' h' w' ∧ TRel ρ' n ts a.tmps ∧ Marks ρ' ds a.defers
/-- The round that is run. -/
def RdR (ρ : Ren) : Option Nat → Option Nat → Prop
  | none, none => True
  | some l, some b => ∃ loc, ρ l = some loc ∧ b = loc.blk
  | _, _ => False
theorem RdR.mono {ρ ρ' : Ren} (h : Ren.le ρ ρ') : ∀ {rd r : Option Nat}, RdR ρ rd r → RdR ρ' rd r
  | none, none, _ => trivial
  | some _, some _, ⟨l, e, r⟩ => ⟨l, h _ _ e, r⟩
  | none, some _, k => k.elim
  | some _, none, k => k.elim

/-- A function that can be entered. -/
def Callable (P : Program) (f : FuncId) : Prop := ∃ fn, P.funcs[f]? = some fn ∧ fn.body.isSome = true ∧ fn.name ≠ "runtime.NumGoroutine"

/-- What the evaluator says is so. -/
structure Sound (K : Cfg) (P : Program) (E : Task → Option Out) : Prop where
  call : ∀ f args h v h', E (.call f args h) = some (.val v h') → Callable P f ∧ ∀ ρ w vals r m, Rep K ρ h w → Dom ρ h.next → All2 (ConW ρ) args vals → CallsIn (Wd r) m P f vals.toArray w (PostV K ρ h w v h')
  code : ∀ c n rd ds ts h x ds' ts' h', E (.code c n rd ds ts h) = some (.at x ds' ts' h') → ∀ ρ w a r m, Rep K ρ h w → Dom ρ h.next → TRel ρ n ts a.tmps → Marks ρ ds a.defers → RdR ρ rd r → c.wpIn (Wd r) m P (PostC K ρ h w n x ds' ts' h') a w
  shape : ∀ t o, E t = some o → (∃ f args h v h', t = .call f args h ∧ o = .val v h') ∨ ∃ c n rd ds ts h x ds' ts' h', t = .code c n rd ds ts h ∧ o = .at x ds' ts' h'

section
variable {K : Cfg} {P : Program} {E : Task → Option Out} {ρ : Ren} {h h' : H} {w : World} {ts : Tmps} {n : Nat} {o : Oper} {v : V}

theorem callFunc_enter {f : FuncId} (hf : Callable P f) (args : Array Value) (w : World) : (callFunc f args).run P w = .ok (.enter f args) w := by
  obtain ⟨fn, h1, h2, h3⟩ := hf
  have h5 : ¬ fn.body = none := fun hb => by rw [hb] at h2; cases h2
  simp [callFunc, run_program, h1, h3, h5]

theorem ptrW_all {ps : List (Option (Nat × Nat))} {vs : List Value} (h : All2 (ConQ ρ) ps vs) : All2 (ConW ρ) (ps.map ptrW) vs := by
  induction ps generalizing vs with
  | nil => cases vs with
    | nil => trivial
    | cons _ _ => exact h.elim
  | cons p ps ih => cases vs with
    | nil => exact h.elim
    | cons v vs => exact ⟨by cases p <;> exact h.1, ih h.2⟩

/-- A loop's record is turned. -/
theorem loop_put (hr : Rep K ρ h w) {l : Nat} {lts : Tmps} {ln : Nat} {ps : List Tmp} {as bd : Code} {st st' : LoopState} {pend pend' : Option Code} {d : Nat} (ho : h.get l = some (.loop lts ln ps as bd st pend d)) :
    ∃ loc r, ρ l = some loc ∧ w.heap[loc.blk]? = some (.loop r) ∧ r.state = st ∧ r.pending = pend ∧ TRel ρ ln lts r.tmps ∧ r.params.toList = ps ∧ r.assign = as ∧ r.body = bd ∧ (∃ ld, ρ d = some ld ∧ r.defers = ld.blk) ∧
      Aft K ρ h w ρ (h.put l (.loop lts ln ps as bd st' pend' d)) { w with heap := w.heap.setIfInBounds loc.blk (.loop { r with state := st', pending := pend' }) } := by
  obtain ⟨loc, hl, hor⟩ := hr.obj l _ ho
  have hlt := hor.lt
  obtain ⟨r, h1, h2, h3, h4, h5, h6, h7, h8⟩ := hor
  refine ⟨loc, r, hl, h1, h2, h3, h4, h5, h6, h7, h8, ?_⟩
  obtain ⟨a1, a2⟩ := hr.update (w' := { w with heap := w.heap.setIfInBounds loc.blk (.loop { r with state := st', pending := pend' }) }) (o' := .loop lts ln ps as bd st' pend' d) ho rfl hl rfl (fun k hk => by simp [Ne.symm hk]) (by simp) ⟨{ r with state := st', pending := pend' }, by simp [hlt], rfl, rfl, h4, h5, h6, h7, h8⟩ rfl rfl rfl
  exact ⟨Ren.le.refl _, New.refl _ _ _, a1, a2, Nat.le_refl _⟩

theorem getLoop_run {b : Nat} {r : Loop} (hb : w.heap[b]? = some (.loop r)) : (Instr.getLoop b).run P w = .ok r w := by
  simp [Instr.getLoop, getObj, Sem.run, hb]
theorem setLoop_run {b : Nat} {r r' : Loop} (hb : w.heap[b]? = some (.loop r)) : (setObj b (.loop r')).run P w = .ok () { w with heap := w.heap.setIfInBounds b (.loop r') } := by
  simp [setObj, Sem.run, hb]

theorem zipParams_rel : ∀ {ps : List Tmp} {vs : List W} {us : List Value} {lts rts : Tmps} {tmps : Array Value}, zipParams n ps vs lts = some rts → All2 (ConW ρ) vs us → TRel ρ n lts tmps → ps.length = us.length ∧ TRel ρ n rts ((ps.zip us).foldl (fun tmps p => tmps.setIfInBounds p.1 p.2) tmps)
  | [], [], us, lts, rts, tmps, h, hv, ht => by
    simp [zipParams] at h; subst h
    cases us with
    | nil => exact ⟨rfl, ht⟩
    | cons _ _ => exact hv.elim
  | t :: ps, x :: vs, us, lts, rts, tmps, h, hv, ht => by
    cases us with
    | nil => exact hv.elim
    | cons u us =>
      simp only [zipParams] at h
      cases hb : Nat.blt t n with
      | false => rw [hb] at h; cases h
      | true =>
        rw [hb] at h
        simp only [cond_true] at h
        obtain ⟨a, b⟩ := zipParams_rel h hv.2 (ht.set (blt_lt hb) (v := .w x) hv.1)
        exact ⟨by simp [a], b⟩
  | [], _ :: _, _, _, _, _, h, _, _ => by simp [zipParams] at h
  | _ :: _, [], _, _, _, _, h, _, _ => by simp [zipParams] at h

/-- Operations, calls too, as the calculus has them. -/
theorem any_sound' (F : Fits K P) (S : Sound K P E) (hr : Rep K ρ h w) (hd : Dom ρ h.next) {a : Act} {e : Operand → Value} (he : EvR K ρ ts e) (hx : execOp a.eval o = execOp e o) (hv : evAny K E ts h o.op = some (v, h')) {next : Act → World → Prop} {Q : Exit → Act → World → Prop} {r : Option Nat} {m : Nat}
    (hnext : ∀ ρ' val w', Aft K ρ h w ρ' h' w' → ConV ρ' v val → next (a.put o.dst val) w') : o.wpIn (Wd r) m P a w next Q := by
  refine ⟨fun _ _ => trivial, ?_⟩
  by_cases hcall : ∃ f args tys, o.op = .call ⟨.value f, args, tys⟩
  · obtain ⟨f, args, tys, hop⟩ := hcall
    have hsem : o.semAt (Wd r).round a.eval = execOp a.eval o := by
      unfold Oper.semAt
      rw [hop]
      cases (Wd r).round <;> rfl
    rw [hsem, hx]
    have hv' : outVH (evCallOp E h (evalWs K ts args.toList) (evalC K ts f)) = some (v, h') := by
      have : evAny K E ts h (.call ⟨.value f, args, tys⟩) = outVH (evCallOp E h (evalWs K ts args.toList) (evalC K ts f)) := rfl
      rw [← this, ← hop]; exact hv
    have hco : evCallOp E h (evalWs K ts args.toList) (evalC K ts f) = some (.val v h') := by
      unfold outVH at hv'
      split at hv'
      · rename_i hh; cases hv'; exact hh
      · cases hv'
    unfold evCallOp at hco
    split at hco
    · rename_i fid first caps hf
      split at hco
      · rename_i as has
        obtain ⟨hcal, hcalls⟩ := S.call _ _ _ _ _ hco
        obtain ⟨fa, ca, hfv, h1, h2⟩ := he.c hf
        have hvals := he.ws has
        have hall : All2 (ConW ρ) (callArgs as first caps) (fa.toList ++ args.toList.map e ++ ca.toList) := ((ptrW_all h1).append hvals).append (ptrW_all h2)
        have harr : (fa.toList ++ args.toList.map e ++ ca.toList).toArray = fa ++ args.map e ++ ca := by
          apply Array.ext'
          simp
        have hrun : (execOp e o).run P w = .ok (.enter fid (fa ++ args.map e ++ ca)) w := by
          simp only [execOp, hop, resolve, hfv, Deferred.ofValue, Sem.run_bind, Sem.run_pure, Result.andThen_ok, invoke]
          exact callFunc_enter hcal _ w
        rw [hrun, Oper.uponIn_enter]
        refine ⟨fun hh => by simp [Wd, Fence.wide] at hh, ?_⟩
        have hc := hcalls ρ w _ r (m - 1) hr hd hall
        rw [harr] at hc
        refine hc.mono ?_
        rintro e w' ⟨ρ', val, rfl, haft, hcon⟩
        exact hnext ρ' val w' haft hcon
      · cases hco
    · rename_i l hf
      unfold evRound at hco
      split at hco
      · rename_i lts ln ps assign body st pend d ho
        split at hco
        · rename_i as has
          split at hco
          · rename_i rts hz
            obtain ⟨loc, rec, hl, hb, r1, r2, r3, r4, r5, r6, _, _⟩ := loop_put (st' := st) (pend' := pend) hr ho
            obtain ⟨loc', hl', hfv⟩ := he.c hf
            rw [hl] at hl'
            cases hl'
            have hvals := he.ws has
            obtain ⟨hlen, hrt⟩ := zipParams_rel hz hvals r3
            have hrun : (execOp e o).run P w = .ok (.round loc.blk rec.fn ((ps.zip (args.toList.map e)).foldl (fun tmps p => tmps.setIfInBounds p.1 p.2) rec.tmps) assign body) w := by
              simp only [execOp, hop, resolve, hfv, Deferred.ofValue, Sem.run_bind, Sem.run_pure, Result.andThen_ok, invoke, Instr.yield, getLoop_run hb]
              have hsz : ¬ ((#[] ++ args.map e).size ≠ rec.params.size) := by
                have : rec.params.size = ps.length := by rw [← r4]; simp
                rw [this, hlen]
                simp
              rw [if_neg hsz, Sem.run_pure]
              congr 2
              rw [← Array.foldl_toList, Array.toList_zip, r4]
              congr 2
              simp
            rw [hrun, Oper.uponIn_round]
            refine ⟨fun hh => by simp [Wd, Fence.wide] at hh, ?_⟩
            -- the round
            have hmid : ∃ ts1 ds1 h1, E (.code assign ln (some l) [] rts h) = some (.at .normal ds1 ts1 h1) ∧ midRound E l body ln (some (.at .normal ds1 ts1 h1)) = some (.val v h') := by
              unfold midRound at hco
              split at hco
              · rename_i ds1 ts1 h1 hh
                exact ⟨ts1, ds1, h1, hh, by simpa only [midRound] using hco⟩
              · cases hco
            obtain ⟨ts1, ds1, h1, hass, hco2⟩ := hmid
            simp only [midRound] at hco2
            split at hco2
            · rename_i ts' n' ps' as' bd' pend1 d1 ho1
              unfold endRound at hco2
              split at hco2
              · rename_i x ds2 ts2 h2 hbody
                split at hco2
                · rename_i ts3 n3 ps3 as3 bd3 pend3 d3 ho3
                  simp only [Option.some.injEq, Out.val.injEq] at hco2
                  obtain ⟨rfl, rfl⟩ := hco2
                  refine roundIn_of_wpIn (F := Wd r) trivial ?_
                  have hass' := S.code _ _ _ _ _ _ _ _ _ _ hass ρ w { tmps := (ps.zip (args.toList.map e)).foldl (fun tmps p => tmps.setIfInBounds p.1 p.2) rec.tmps, defers := [] } (some loc.blk) (m - 1) hr hd hrt trivial ⟨loc, hl, rfl⟩
                  refine wpIn_mono hass' ?_
                  rintro e a1 w1 ⟨rfl, ρ1, aft1, tr1, mk1⟩
                  -- begin
                  obtain ⟨loc1, rec1, hl1, hb1, q1, q2, q3, q4, q5, q6, q7, aftb⟩ := loop_put (st' := .busy) (pend' := pend1) aft1.rep ho1
                  have hl1' : loc1 = loc := by
                    have := aft1.le _ _ hl
                    rw [hl1] at this
                    cases this
                    rfl
                  subst hl1'
                  refine ⟨{ w1 with heap := w1.heap.setIfInBounds loc1.blk (.loop { rec1 with state := .busy, pending := pend1 }) }, ?_, ?_⟩
                  · have hp : ({ rec1 with state := .busy } : Loop) = { rec1 with state := .busy, pending := pend1 } := by rw [← q2]
                    simp only [Instr.beginRound, Sem.run_bind, getLoop_run hb1, Result.andThen_ok, setLoop_run hb1, q1, Sem.run_pure, hp]
                  · have hd1 := (aft1.trans aftb).dom hd
                    have hbody' := S.code _ _ _ _ _ _ _ _ _ _ hbody ρ1 { w1 with heap := w1.heap.setIfInBounds loc1.blk (.loop { rec1 with state := .busy, pending := pend1 }) } a1 (some loc1.blk) (m - 1) aftb.rep hd1 tr1 mk1 ⟨loc1, hl1, rfl⟩
                    refine wpIn_mono hbody' ?_
                    rintro e a2 w2 ⟨rfl, ρ2, aft2, tr2, mk2⟩
                    obtain ⟨loc2, rec2, hl2, hb2, s1, s2, s3, s4, s5, s6, s7, afte⟩ := loop_put (st' := stateOf x) (pend' := jumpOf x) aft2.rep ho3
                    have hl2' : loc2 = loc1 := by
                      have := aft2.le _ _ hl1
                      rw [hl2] at this
                      cases this
                      rfl
                    subst hl2'
                    have hfin := ((aft1.trans aftb).trans aft2).trans afte
                    cases x with
                    | normal =>
                      refine ⟨.bool true, _, ?_, hnext ρ2 (.bool true) _ hfin rfl⟩
                      simp only [Instr.endRound, Sem.run_bind, getLoop_run hb2, Result.andThen_ok, setLoop_run hb2, Sem.run_pure]
                      rfl
                    | ret =>
                      refine ⟨.bool false, _, ?_, hnext ρ2 (.bool false) _ hfin rfl⟩
                      simp only [Instr.endRound, Sem.run_bind, getLoop_run hb2, Result.andThen_ok, setLoop_run hb2, Sem.run_pure]
                      rfl
                    | exit id =>
                      refine ⟨.bool false, _, ?_, hnext ρ2 (.bool false) _ hfin rfl⟩
                      simp only [Instr.endRound, Sem.run_bind, getLoop_run hb2, Result.andThen_ok, setLoop_run hb2, Sem.run_pure]
                      rfl
                · cases hco2
              · cases hco2
            · cases hco2
          · cases hco
        · cases hco
      · cases hco
    · cases hco
  · have hev : evOp K ts h o.op = some (v, h') := by
      have : evAny K E ts h o.op = evOp K ts h o.op := by
        cases hop : o.op <;> first | rfl | skip
        rename_i c
        obtain ⟨callee, args, tys⟩ := c
        cases callee with
        | value f => exact absurd ⟨f, args, tys, hop⟩ hcall
        | builtin b => rfl
        | invoke x y => rfl
      rw [← this]; exact hv
    have hsem : o.semAt (Wd r).round a.eval = execOp a.eval o := by
      unfold Oper.semAt
      cases hop : o.op <;> first | (cases (Wd r).round <;> rfl) | skip
      rw [hop] at hev
      cases hev
    rw [hsem, hx]
    obtain ⟨ρ', w', val, hrun, g1, g2, g3, g4, g5, g6⟩ := evOp_sound F hr (hd _ (Nat.le_refl _)) he hev
    have hn := hnext ρ' val w' ⟨g1, g2, g3, g5, g6⟩ g4
    rcases hrun with hrun | ⟨hrun, rfl⟩
    · rw [hrun, Oper.uponIn_value]; exact hn
    · rw [hrun, Oper.uponIn_skip]; exact hn

theorem any_sound (F : Fits K P) (S : Sound K P E) (hr : Rep K ρ h w) (hd : Dom ρ h.next) {a : Act} (ht : TRel ρ n ts a.tmps) (hv : evAny K E ts h o.op = some (v, h')) {next : Act → World → Prop} {Q : Exit → Act → World → Prop} {r : Option Nat} {m : Nat}
    (hnext : ∀ ρ' val w', Aft K ρ h w ρ' h' w' → ConV ρ' v val → next (a.put o.dst val) w') : o.wpIn (Wd r) m P a w next Q := any_sound' F S hr hd (evR_of hr ht) rfl hv hnext

end
end Go.Ev
