/- Drawn regions: whatever the order, it goes as the canonical run says. -/
import Derived.Test.YtkpiafihfmafkaaGreatDoorEvDraw6
namespace Go.Ev
open Go.RowKit

section
variable {K : Cfg} {P : Program} {E : Task → Option Out} {ops : Array Oper} {n : Nat} {ts : Tmps} {h h' : H} {s : Nat → Dr} {Ls : Nat → Prop} {p : Nat} {ρ0 ρ : Ren} {w0 w w' : World} {A : Nat → Option (O × Nat)} {a a0 : Act} {i : Nat} {o : Oper} {v : V} {val : Value} {nx : Act → World → Prop} {Q : Exit → Act → World → Prop} {r : Option Nat} {m : Nat}

theorem wpIn_of_run (hev : evOp K ts h o.op = some (v, h')) (hrun : (execOp a.eval o).run P w = .ok (.value val) w') (hn : nx (a.put o.dst val) w') : o.wpIn (Wd r) m P a w nx Q := by
  refine ⟨fun _ _ => trivial, ?_⟩
  have hsem : o.semAt (Wd r).round a.eval = execOp a.eval o := by
    unfold Oper.semAt
    cases hop : o.op <;> first | (cases (Wd r).round <;> rfl) | skip
    rw [hop] at hev
    cases hev
  rw [hsem, hrun, Oper.uponIn_value]
  exact hn
theorem not_select (hev : evOp K ts h o.op = some (v, h')) : ∀ cs b, o.op ≠ .select cs b := fun cs b e => by
  rw [e] at hev
  cases hev
theorem not_select' (hev : evAny K E ts h o.op = some (v, h')) : ∀ cs b, o.op ≠ .select cs b := fun cs b e => by
  rw [e] at hev
  cases hev
theorem any_alloc (hk : kd o.op = .alloc) : evAny K E ts h o.op = evOp K ts h o.op := by
  cases hop : o.op <;> rw [hop] at hk <;> first | rfl | (cases hk; done) | skip
  rename_i c
  obtain ⟨callee, args, tys⟩ := c
  cases callee with
  | value f => cases hk
  | builtin b => cases b <;> cases hk
  | invoke x y => cases hk

/-- One operation that may come up. -/
theorem St.op (F : Fits K P) (Sd : Sound K P E) (hr0 : Rep K ρ0 h w0) (hd0 : Dom ρ0 h.next) (C : Canon K E ops.toList n ts h s) (X : Checks K ops.toList (s ops.toList.length).rds (s ops.toList.length).efs) (S : St K ops.toList n ts h s ρ0 w0 a0 Ls p ρ A a w) (R : Rdy ops.toList Ls i o)
    (hnx : ∀ p' ρ' A' a' w', St K ops.toList n ts h s ρ0 w0 a0 (fun j => Ls j ∨ j = i) p' ρ' A' a' w' → nx a' w') : wpOpIn (Wd r) m P ops Q i nx a w := by
  have hoi : ops[i]? = some o := by rw [← Array.getElem?_toList]; exact R.is
  have hlt := lt_of_getElem? R.is
  unfold wpOpIn
  rw [hoi]
  simp only
  have hbase := S.front.base C
  have hrel := S.sl.rel S.front X C R (k := max (s i).hc.next (s p).hb.next) (by omega) (by omega)
  have hrep : Rep K (ρ.cut (max (s i).hc.next (s p).hb.next)) (s p).hb w := S.mm.rep hr0 hd0 (by omega) (fun x ob hx => by
    obtain ⟨b, hb, hA⟩ := S.a2 x ob hx
    exact ⟨b, by omega, hA⟩)
  have hw : Region.wanted o (yielded ops a.tmps) = wantedB ops.toList (cutT (s i).ts (looks ops.toList o)) o.guard := by
    rw [only_wanted, wanted_eq hrel]
  obtain ⟨v, hput, d⟩ := C.one i o R.is
  rw [hw]
  cases d with
  | skip hw' hk hv hb hc =>
    rw [hw']
    simp only [Bool.false_eq_true, if_false]
    subst hv
    exact ⟨fun _ _ => trivial, hnx _ _ _ _ _ (S.same X C R hk hc hput (conV_undef _))⟩
  | skipEff hw' hk hv hb hc =>
    rw [hw']
    simp only [Bool.false_eq_true, if_false]
    subst hv
    have hpi := R.eff_le S.front X hk
    have hup : (s p).hb.next ≤ (s i).hc.next := by rw [S.front.hp C]; exact C.ups hpi (by omega)
    have hM := S.seg X C hpi (by omega) (R.eff_first S.front X hk) (fun j _ hji ha => R.eff_all S.front X hk hji (.inr ha))
    have hrep1 : Rep K (ρ.cut (s i).hc.next) (s i).hc w := S.mm.rep hr0 hd0 (by omega) hM
    have aft : Aft K (ρ.cut (s i).hc.next) (s i).hc w (ρ.cut (s i).hc.next) (s (i + 1)).hc w := by rw [hc]; exact Aft.refl hrep1
    exact ⟨fun _ _ => trivial, hnx _ _ _ _ _ (S.eff X C R hk aft hput (conV_undef _))⟩
  | pure hw' hk g hv hb hc =>
    rw [hw']
    simp only [if_true]
    have hv2 := (pure_free hk hv).2 (s p).hb
    obtain ⟨_, val, hrun, hcon⟩ := evOp_same F hrep (evR_of hrep hrel) (.inl hk) hv2
    rw [← only_eval (ops := ops) a o (not_select hv)] at hrun
    exact wpIn_of_run hv hrun (hnx _ _ _ _ _ (S.same X C R (by rw [hk]; intro e; cases e) hc hput hcon))
  | read hw' hk g hv hb hc hr =>
    rw [hw']
    simp only [if_true]
    obtain ⟨g2, hv2⟩ := R.read S.front C X hv (C.rds_mono (i := i + 1) (by omega) (Nat.le_refl _) (by rw [hr]; exact List.mem_cons_self))
    obtain ⟨_, val, hrun, hcon⟩ := evOp_same F hrep (evR_of hrep hrel) (.inr hk) hv2
    rw [← only_eval (ops := ops) a o (not_select hv)] at hrun
    exact wpIn_of_run hv hrun (hnx _ _ _ _ _ (S.same X C R (by rw [hk]; intro e; cases e) hc hput hcon))
  | alloc hw' hk hv hb =>
    rw [hw']
    simp only [if_true]
    have hpi := R.alloc_le S.front X hk
    have hup : (s p).hb.next ≤ (s i).hc.next := by rw [S.front.hp C]; exact C.ups hpi (by omega)
    obtain ⟨ob, _, hc, hfree⟩ := alloc_free hk hv
    have hv2 := hfree ⟨Tree.nil, (s i).hc.next⟩ rfl
    have hrel0 := S.sl.rel S.front X C R (k := (s i).hc.next) (Nat.le_refl _) hup
    have hrep0 : Rep K (ρ.cut (s i).hc.next) ⟨Tree.nil, (s i).hc.next⟩ w := S.mm.rep hr0 hd0 (by omega) (fun x ob hx => by
      have : (⟨Tree.nil, (s i).hc.next⟩ : H).get x = none := Tree.get_nil x
      rw [this] at hx
      cases hx)
    exact any_sound' F Sd hrep0 (Ren.cut_dom _ _) (evR_of hrep0 hrel0) (only_eval (ops := ops) a o (not_select hv)) (by rw [any_alloc hk]; exact hv2) (fun ρ' val w' aft hcon => hnx _ _ _ _ _ (S.alloc X C R hk hc aft hput hcon))
  | eff hw' hk hv hb up =>
    rw [hw']
    simp only [if_true]
    have hpi := R.eff_le S.front X hk
    have hup : (s p).hb.next ≤ (s i).hc.next := by rw [S.front.hp C]; exact C.ups hpi (by omega)
    have hM := S.seg X C hpi (by omega) (R.eff_first S.front X hk) (fun j _ hji ha => R.eff_all S.front X hk hji (.inr ha))
    have hrep1 : Rep K (ρ.cut (s i).hc.next) (s i).hc w := S.mm.rep hr0 hd0 (by omega) hM
    have hrel0 := S.sl.rel S.front X C R (k := (s i).hc.next) (Nat.le_refl _) hup
    exact any_sound' F Sd hrep1 (Ren.cut_dom _ _) (evR_of hrep1 hrel0) (only_eval (ops := ops) a o (not_select' hv)) hv (fun ρ' val w' aft hcon => hnx _ _ _ _ _ (S.eff X C R hk aft hput hcon))

/-- At the end. -/
theorem St.end (hr0 : Rep K ρ0 h w0) (hd0 : Dom ρ0 h.next) (C : Canon K E ops.toList n ts h s) (X : Checks K ops.toList (s ops.toList.length).rds (s ops.toList.length).efs) (S : St K ops.toList n ts h s ρ0 w0 a0 Ls p ρ A a w) (hall : ∀ j, j < ops.toList.length → Ls j) :
    Aft K ρ0 h w0 (ρ.cut (s ops.toList.length).hc.next) (s ops.toList.length).hc w ∧ TRel (ρ.cut (s ops.toList.length).hc.next) n (s ops.toList.length).ts a.tmps := by
  have hple := S.front.le
  have hbase := S.front.base C
  have hup : (s p).hb.next ≤ (s ops.toList.length).hc.next := by rw [S.front.hp C]; exact C.ups hple (Nat.le_refl _)
  have hM := S.seg X C hple (Nat.le_refl _) (fun j h1 h2 he => S.front.behind j h1 he (hall j h2)) (fun j _ h2 _ => hall j h2)
  refine ⟨S.mm.aft hr0 hd0 (by omega) hM, S.sl.size, fun t => ?_⟩
  rcases C.slot (Nat.le_refl _) t with ⟨j, oj, hj, hoj, hd, he⟩ | ⟨hno, he⟩
  · rw [he]
    have := C.ups (i := j + 1) (j := ops.toList.length) (by omega) (Nat.le_refl _)
    exact (S.sl.done j oj t (hall j hj) hoj hd).mono (Ren.cut_mono (by omega) (Ren.le.refl _))
  · rw [he]
    exact (S.sl.rest t (fun j oj hj hoj => hno j oj (S.front.lt j hj) hoj)).mono (Ren.cut_mono hup (Ren.le.refl _))

theorem countP_lt {α : Type} {f g : α → Bool} : ∀ {l : List α}, (∀ x ∈ l, g x = true → f x = true) → (∃ x ∈ l, f x = true ∧ g x = false) → l.countP g < l.countP f
  | [], _, h => by obtain ⟨x, hx, _⟩ := h; simp at hx
  | y :: l, hi, h => by
    have hle : l.countP g ≤ l.countP f := List.countP_mono_left (fun x hx => hi x (List.mem_cons_of_mem _ hx))
    obtain ⟨x, hx, h1, h2⟩ := h
    rw [List.countP_cons, List.countP_cons]
    rcases List.mem_cons.1 hx with rfl | hx
    · rw [h1, h2]; simp; omega
    · have := countP_lt (l := l) (fun x hx => hi x (List.mem_cons_of_mem _ hx)) ⟨x, hx, h1, h2⟩
      have hy := hi y List.mem_cons_self
      cases hg : g y with
      | false => cases hf : f y <;> simp <;> omega
      | true => rw [hy hg]; simp; omega

theorem mem_ready {listed : Array Bool} : i ∈ Region.ready .any ops listed ↔ i < ops.size ∧ listed.getD i true = false ∧ ∃ o, ops[i]? = some o ∧ ∀ e ∈ o.after, Region.binds .any e = true → listed.getD e.on false = true := by
  unfold Region.ready
  rw [List.mem_filter, List.mem_range, Bool.and_eq_true]
  constructor
  · rintro ⟨h1, h2, h3⟩
    refine ⟨h1, by simpa using h2, ?_⟩
    cases ho : ops[i]? with
    | none => rw [ho] at h3; simp at h3
    | some o =>
      rw [ho] at h3
      simp only [Option.map_some, Option.getD_some] at h3
      rw [Array.all_eq_true_iff_forall_mem] at h3
      refine ⟨o, rfl, fun e he hb => ?_⟩
      have := h3 e he
      rw [hb] at this
      simpa using this
  · rintro ⟨h1, h2, o, ho, h3⟩
    refine ⟨h1, by simpa using h2, ?_⟩
    rw [ho]
    simp only [Option.map_some, Option.getD_some]
    rw [Array.all_eq_true_iff_forall_mem]
    intro e he
    cases hb : Region.binds .any e with
    | false => rfl
    | true => simpa using h3 e he hb

theorem St.any (F : Fits K P) (Sd : Sound K P E) (hr0 : Rep K ρ0 h w0) (hd0 : Dom ρ0 h.next) (C : Canon K E ops.toList n ts h s) (X : Checks K ops.toList (s ops.toList.length).rds (s ops.toList.length).efs)
    (hq : ∀ ρ' a' w', Aft K ρ0 h w0 ρ' (s ops.toList.length).hc w' → TRel ρ' n (s ops.toList.length).ts a'.tmps → a'.defers = a0.defers → Q .normal a' w') :
    ∀ (fuel : Nat) (listed : Array Bool) (p : Nat) (ρ : Ren) (A : Nat → Option (O × Nat)) (a : Act) (w : World), listed.size = ops.size → (List.range ops.size).countP (fun j => !listed.getD j false) ≤ fuel → St K ops.toList n ts h s ρ0 w0 a0 (fun j => listed.getD j false = true) p ρ A a w →
    wpAnyIn (Wd r) m P .any ops Q fuel listed a w := by
  have hlen : ops.toList.length = ops.size := by simp
  have hget : ∀ (listed : Array Bool), listed.size = ops.size → ∀ j, j < ops.size → listed.getD j true = listed.getD j false := fun listed hs j hj => by
    rw [Array.getD_eq_getD_getElem?, Array.getD_eq_getD_getElem?]
    have : j < listed.size := by omega
    simp [this]
  have fin : ∀ (listed : Array Bool) (p : Nat) (ρ : Ren) (A : Nat → Option (O × Nat)) (a : Act) (w : World), listed.size = ops.size → St K ops.toList n ts h s ρ0 w0 a0 (fun j => listed.getD j false = true) p ρ A a w → Region.ready .any ops listed = [] → Q .normal a w := fun listed p ρ A a w hs S hr => by
    have hall : ∀ j, j < ops.toList.length → listed.getD j false = true := fun j hj => by
      by_cases hex : listed.getD j false = true
      · exact hex
      · obtain ⟨k, k1, k2, k3, k4⟩ := least (Q := fun j => ¬ listed.getD j false = true) 0 j j (Nat.le_refl _) (Nat.zero_le _) hex
        obtain ⟨ok, hok⟩ := getElem?_lt (L := ops.toList) (i := k) (by omega)
        have : k ∈ Region.ready .any ops listed := by
          refine mem_ready.2 ⟨by omega, ?_, ok, by rw [← Array.getElem?_toList]; exact hok, fun e he hb => ?_⟩
          · rw [hget listed hs k (by omega)]; simpa using k3
          · have hw : waits ok e.on = true := waits_iff.2 ⟨e, he, hb, rfl⟩
            have hlt := X.back k ok hok e.on hw
            by_cases hh : listed.getD e.on false = true
            · exact hh
            · exact absurd hh (k4 e.on (Nat.zero_le _) hlt)
        rw [hr] at this
        simp at this
    obtain ⟨h1, h2⟩ := S.end hr0 hd0 C X hall
    exact hq _ a w h1 h2 S.defers
  intro fuel
  induction fuel with
  | zero =>
    intro listed p ρ A a w hs hc S
    have hr : Region.ready .any ops listed = [] := by
      cases hh : Region.ready .any ops listed with
      | nil => rfl
      | cons k l =>
        have hk : k ∈ Region.ready .any ops listed := by rw [hh]; exact List.mem_cons_self
        obtain ⟨h1, h2, _⟩ := mem_ready.1 hk
        have h0 : (List.range ops.size).countP (fun j => !listed.getD j false) = 0 := by omega
        rw [List.countP_eq_zero] at h0
        have := h0 k (List.mem_range.2 h1)
        rw [hget listed hs k h1] at h2
        rw [h2] at this
        simp at this
    exact ⟨hr, fin listed p ρ A a w hs S hr⟩
  | succ fuel ih =>
    intro listed p ρ A a w hs hc S
    refine ⟨fun hr => fin listed p ρ A a w hs S hr, fun i hi => ?_⟩
    obtain ⟨h1, h2, o, ho, h3⟩ := mem_ready.1 hi
    rw [hget listed hs i h1] at h2
    have hset : ∀ j, (listed.setIfInBounds i true).getD j false = if j = i then true else listed.getD j false := fun j => by
      rw [Array.getD_eq_getD_getElem?, Array.getD_eq_getD_getElem?]
      by_cases e : j = i
      · subst e
        rw [Array.getElem?_setIfInBounds_self_of_lt (by omega), if_pos rfl]
        rfl
      · rw [Array.getElem?_setIfInBounds_ne (fun h => e h.symm), if_neg e]
    have R : Rdy ops.toList (fun j => listed.getD j false = true) i o := ⟨by rw [Array.getElem?_toList]; exact ho, by rw [h2]; simp, fun j hw => by
      obtain ⟨e, he, hb, rfl⟩ := waits_iff.1 hw
      exact h3 e he hb⟩
    refine S.op F Sd hr0 hd0 C X R (fun p' ρ' A' a' w' S' => ih _ p' ρ' A' a' w' (by simp [hs]) ?_ ?_)
    · have : (List.range ops.size).countP (fun j => !(listed.setIfInBounds i true).getD j false) < (List.range ops.size).countP (fun j => !listed.getD j false) := by
        refine countP_lt (fun j _ hj => ?_) ⟨i, List.mem_range.2 h1, by rw [h2]; rfl, by rw [hset, if_pos rfl]; rfl⟩
        rw [hset] at hj
        split at hj
        · simp at hj
        · exact hj
      omega
    · have e : (fun j => (listed.setIfInBounds i true).getD j false = true) = (fun j => listed.getD j false = true ∨ j = i) := by
        funext j
        rw [hset]
        apply propext
        by_cases e : j = i <;> simp [e]
      rw [e]
      exact S'

theorem draw_ok (F : Fits K P) (Sd : Sound K P E) : DrawOk K P E := by
  intro id ops n ts ts' h h' ρ w a r m Q hv hr hd ht hq
  obtain ⟨s, C, X, rfl, rfl⟩ := evDraw_some hv
  refine wpIn_region_any F.mixed ?_
  have hr1 : Rep K ρ h { w with drawn := w.drawn + 1 } := hr.of_heap rfl
  have aft1 : Aft K ρ h w ρ h { w with drawn := w.drawn + 1 } := ⟨Ren.le.refl _, New.refl _ _ _, hr1, Fr.of_heap rfl rfl rfl rfl, Nat.le_refl _⟩
  have hcut : ρ.cut h.next = ρ := by
    funext x
    unfold Ren.cut
    split
    · rfl
    · exact (hd x (by omega)).symm
  have hs0 : (s 0).hb = h ∧ (s 0).hc = h := by rw [C.start]; exact ⟨rfl, rfl⟩
  have hnone : ∀ j, ¬ ((Array.replicate ops.size false).getD j false = true) := fun j => by
    rw [Array.getD_eq_getD_getElem?]
    by_cases hj : j < ops.size <;> simp [hj]
  refine St.any (a0 := a) F Sd hr1 hd C X (fun ρ' a' w' h1 h2 h3 => hq ρ' a' w' (aft1.trans h1) h2 h3) ops.size (Array.replicate ops.size false) 0 ρ (fun x => match h.get x with | some o => some (o, h.next) | none => none) a _ (by simp) ?_ ?_
  · exact Nat.le_trans List.countP_le_length (by simp)
  · refine ⟨⟨fun j hj => absurd hj (hnone j), fun j _ hj => absurd hj (hnone j), .inl rfl, fun j _ _ => hnone j⟩, Mm.start hr1 hd, ⟨ht.1, fun j _ _ hj => absurd hj (hnone j), fun t _ => ?_⟩, rfl, fun x l hx => ?_, fun x ob b hx => ?_, fun x ob hx => ?_, fun j _ _ hj => absurd hj (hnone j)⟩
    · rw [hs0.1, hcut]; exact ht.2 t
    · rw [hs0.1]; exact .inl (dom_lt hd hx)
    · rw [hs0.1]
      split at hx
      · rename_i ho; cases hx; exact .inl ⟨Nat.le_refl _, ho⟩
      · cases hx
    · rw [hs0.1] at hx ⊢
      exact ⟨h.next, Nat.le_refl _, by rw [hx]⟩

end
end Go.Ev
