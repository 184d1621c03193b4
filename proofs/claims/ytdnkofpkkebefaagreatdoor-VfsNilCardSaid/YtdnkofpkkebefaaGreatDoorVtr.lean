/- Closures that recover: vfs.try's, check.examine's. -/
import Derived.Test.YtdnkofpkkebefaaGreatDoorTy
import Derived.Test.YtdnkofpkkebefaaGreatDoorEvC
set_option linter.unusedSimpArgs false
set_option linter.unusedVariables false
set_option linter.unusedSectionVars false
set_option maxRecDepth 100000
set_option maxHeartbeats 4000000
namespace Go.Proofs.YtdnkofpkkebefaaGreatDoor
open Go.Ev Go.RowKit
theorem ty3 : K.types.get 3 = some ti3 := by kernel_rfl
theorem sz3 : ti3.size = 1 := by rfl
theorem ag3 : ti3.agg = false := by rfl
theorem de3 : ti3.desc = (.int .i64) := by rfl
theorem ze3 : ti3.zero = (.c (.int .i64 0)) := by rfl
theorem by3 : ti3.bytes = 8 := by rfl
theorem ke3 (k : IntKind) (n : Int) : keyT K 20 3 (.c (.int k n)) = true := by kernel_rfl
theorem ty4 : K.types.get 4 = some ti4 := by kernel_rfl
theorem sz4 : ti4.size = 1 := by rfl
theorem ag4 : ti4.agg = false := by rfl
theorem de4 : ti4.desc = .bool := by rfl
theorem ze4 : ti4.zero = (.c (.bool false)) := by rfl
theorem by4 : ti4.bytes = 1 := by rfl
theorem ty5 : K.types.get 5 = some ti5 := by kernel_rfl
theorem sz5 : ti5.size = 1 := by rfl
theorem ag5 : ti5.agg = false := by rfl
theorem de5 : ti5.desc = (.int .u8) := by rfl
theorem ze5 : ti5.zero = (.c (.int .u8 0)) := by rfl
theorem by5 : ti5.bytes = 1 := by rfl
theorem ke5 (k : IntKind) (n : Int) : keyT K 20 5 (.c (.int k n)) = true := by kernel_rfl
theorem ty9 : K.types.get 9 = some ti9 := by kernel_rfl
theorem sz9 : ti9.size = 1 := by rfl
theorem ag9 : ti9.agg = false := by rfl
theorem de9 : ti9.desc = .string := by rfl
theorem ze9 : ti9.zero = (.c (.str [])) := by rfl
theorem by9 : ti9.bytes = 16 := by rfl
theorem ty30 : K.types.get 30 = some ti30 := by kernel_rfl
theorem sz30 : ti30.size = 1 := by rfl
theorem ag30 : ti30.agg = false := by rfl
theorem de30 : ti30.desc = (.int .i64) := by rfl
theorem ze30 : ti30.zero = (.c (.int .i64 0)) := by rfl
theorem by30 : ti30.bytes = 8 := by rfl
theorem ke30 (k : IntKind) (n : Int) : keyT K 20 30 (.c (.int k n)) = true := by kernel_rfl
theorem ty31 : K.types.get 31 = some ti31 := by kernel_rfl
theorem sz31 : ti31.size = 1 := by rfl
theorem ag31 : ti31.agg = false := by rfl
theorem de31 : ti31.desc = (.slice 5) := by rfl
theorem ze31 : ti31.zero = (.c (.snil)) := by rfl
theorem by31 : ti31.bytes = 24 := by rfl
theorem el31 : elemTI K 31 = some ti5 := by kernel_rfl
theorem ty33 : K.types.get 33 = some ti33 := by kernel_rfl
theorem sz33 : ti33.size = 4 := by rfl
theorem ag33 : ti33.agg = true := by rfl
theorem fo33_0 : fieldOf K 33 0 = some (0, ti3) := by kernel_rfl
theorem fo33_1 : fieldOf K 33 1 = some (1, ti5) := by kernel_rfl
theorem fo33_2 : fieldOf K 33 2 = some (2, ti3) := by kernel_rfl
theorem fo33_3 : fieldOf K 33 3 = some (3, ti3) := by kernel_rfl
theorem bu33 (ps : List (Nat × W)) : opBuild K 33 (some ps) = gW (fillStruct K 33 ps ti33.zero.cells) := by kernel_rfl
theorem ze33 : ti33.zero = (.g ([.int .i64 0, .int .u8 0, .int .i64 0, .int .i64 0])) := by rfl
theorem by33 : ti33.bytes = 32 := by rfl
theorem ty34 : K.types.get 34 = some ti34 := by kernel_rfl
theorem sz34 : ti34.size = 1 := by rfl
theorem ag34 : ti34.agg = false := by rfl
theorem de34 : ti34.desc = (.slice 89) := by rfl
theorem ze34 : ti34.zero = (.c (.snil)) := by rfl
theorem by34 : ti34.bytes = 24 := by rfl
theorem el34 : elemTI K 34 = some ti89 := by kernel_rfl
theorem ty36 : K.types.get 36 = some ti36 := by kernel_rfl
theorem sz36 : ti36.size = 8 := by rfl
theorem ag36 : ti36.agg = true := by rfl
theorem fo36_0 : fieldOf K 36 0 = some (0, ti30) := by kernel_rfl
theorem fo36_1 : fieldOf K 36 1 = some (1, ti3) := by kernel_rfl
theorem fo36_2 : fieldOf K 36 2 = some (2, ti31) := by kernel_rfl
theorem fo36_3 : fieldOf K 36 3 = some (3, ti33) := by kernel_rfl
theorem fo36_4 : fieldOf K 36 4 = some (7, ti34) := by kernel_rfl
theorem bu36 (ps : List (Nat × W)) : opBuild K 36 (some ps) = gW (fillStruct K 36 ps ti36.zero.cells) := by kernel_rfl
theorem ze36 : ti36.zero = (.g ([.int .i64 0, .int .i64 0, .snil, .int .i64 0, .int .u8 0, .int .i64 0, .int .i64 0, .snil])) := by rfl
theorem by36 : ti36.bytes = 96 := by rfl
theorem ty89 : K.types.get 89 = some ti89 := by kernel_rfl
theorem sz89 : ti89.size = 2 := by rfl
theorem ag89 : ti89.agg = true := by rfl
theorem fo89_0 : fieldOf K 89 0 = some (0, ti9) := by kernel_rfl
theorem fo89_1 : fieldOf K 89 1 = some (1, ti3) := by kernel_rfl
theorem bu89 (ps : List (Nat × W)) : opBuild K 89 (some ps) = gW (fillStruct K 89 ps ti89.zero.cells) := by kernel_rfl
theorem ze89 : ti89.zero = (.g ([.str [], .int .i64 0])) := by rfl
theorem by89 : ti89.bytes = 24 := by rfl
theorem ty113 : K.types.get 113 = some ti113 := by kernel_rfl
theorem sz113 : ti113.size = 1 := by rfl
theorem ag113 : ti113.agg = true := by rfl
theorem fo113_0 : fieldOf K 113 0 = some (0, ti30) := by kernel_rfl
theorem bu113 (ps : List (Nat × W)) : opBuild K 113 (some ps) = gW (fillStruct K 113 ps ti113.zero.cells) := by kernel_rfl
theorem ze113 : ti113.zero = (.g ([.int .i64 0])) := by rfl
theorem by113 : ti113.bytes = 8 := by rfl
attribute [go_sem] ty3 sz3 ag3 de3 ze3 by3 ke3 ty4 sz4 ag4 de4 ze4 by4 ty5 sz5 ag5 de5 ze5 by5 ke5 ty9 sz9 ag9 de9 ze9 by9 ty30 sz30 ag30 de30 ze30 by30 ke30 ty31 sz31 ag31 de31 ze31 by31 el31 ty33 sz33 ag33 fo33_0 fo33_1 fo33_2 fo33_3 bu33 ze33 by33 ty34 sz34 ag34 de34 ze34 by34 el34 ty36 sz36 ag36 fo36_0 fo36_1 fo36_2 fo36_3 fo36_4 bu36 ze36 by36 ty89 sz89 ag89 fo89_0 fo89_1 bu89 ze89 by89 ty113 sz113 ag113 fo113_0 bu113 ze113 by113
noncomputable def q61 (p : List Nat) : Code := piece p (bodyOf Tryz.f61)
noncomputable def q243 (p : List Nat) : Code := piece p (bodyOf Tryz.f243)
theorem rs61 : Tryz.f61.results.toList = [] := rfl
theorem rs243 : Tryz.f243.results.toList = [] := rfl
attribute [go_sem] rs61 rs243
theorem tryHead : RecHead (q61 []) (q61 [0]) (q61 [1,0]) (q61 [1,1,3]) 20 :=
  ⟨by kernel_rfl, by kernel_rfl, by kernel_rfl, by kernel_rfl, by kernel_rfl, ⟨by kernel_rfl, by kernel_rfl, by kernel_rfl⟩, ⟨by kernel_rfl, by kernel_rfl, by kernel_rfl⟩, ⟨by kernel_rfl, by kernel_rfl, by kernel_rfl⟩, ⟨⟨20, by kernel_rfl⟩, by kernel_rfl, by kernel_rfl⟩⟩
theorem examHead : RecHead (q243 []) (q243 [0]) (q243 [1,0]) (q243 [1,1,3]) 20 :=
  ⟨by kernel_rfl, by kernel_rfl, by kernel_rfl, by kernel_rfl, by kernel_rfl, ⟨by kernel_rfl, by kernel_rfl, by kernel_rfl⟩, ⟨by kernel_rfl, by kernel_rfl, by kernel_rfl⟩, ⟨by kernel_rfl, by kernel_rfl, by kernel_rfl⟩, ⟨⟨20, by kernel_rfl⟩, by kernel_rfl, by kernel_rfl⟩⟩
theorem tryRest : RecRest (q61 [1,1,3]) (q61 [1,1,3,0]) (q61 [1,1,3,1,0,0]) (q61 [1,1,3,1,0,1,3]) (q61 [1,1,3,1,1]) 20 113 30 36 :=
  ⟨by kernel_rfl, by kernel_rfl, by kernel_rfl, by kernel_rfl, by kernel_rfl, by kernel_rfl, by kernel_rfl,
   ⟨by kernel_rfl, by kernel_rfl, by kernel_rfl⟩, ⟨by kernel_rfl, by kernel_rfl, by kernel_rfl⟩, ⟨by kernel_rfl, by kernel_rfl, by kernel_rfl⟩, ⟨by kernel_rfl, by kernel_rfl, by kernel_rfl⟩, ⟨by kernel_rfl, by kernel_rfl, by kernel_rfl⟩, ⟨by kernel_rfl, by kernel_rfl, by kernel_rfl⟩, ⟨by kernel_rfl, by kernel_rfl, by kernel_rfl⟩, ⟨by kernel_rfl, by kernel_rfl, by kernel_rfl⟩,
   ⟨by kernel_rfl, by kernel_rfl, by kernel_rfl⟩, ⟨4, by kernel_rfl, by kernel_rfl, by kernel_rfl⟩, ⟨by kernel_rfl, by kernel_rfl, by kernel_rfl⟩, ⟨by kernel_rfl, by kernel_rfl, by kernel_rfl⟩, ⟨by kernel_rfl, by kernel_rfl, by kernel_rfl⟩, ⟨by kernel_rfl, by kernel_rfl, by kernel_rfl⟩⟩
def toldE (e : Int) : List Go.Ev.C := [.int .i64 e, .int .i64 0, .snil, .int .i64 0, .int .u8 0, .int .i64 0, .int .i64 0, .snil]
theorem tryTypes : RecTypes K 113 30 36 toldE where
  al := fun ts h => by
    have e1 : K.types.get 113 = some ti113 := by kernel_rfl
    simp only [go_sem, e1]
  st := fun ts h p e h2 h10 hp => by
    have e1 : K.types.get 113 = some ti113 := by kernel_rfl
    simp only [go_sem, e1, h2, h10, hp]
    rfl
  fa := fun ts h p h2 => by
    have e1 : K.types.get 113 = some ti113 := by kernel_rfl
    simp only [go_sem, h2]
  ld := fun ts h p e h2 hp => by
    have e1 : K.types.get 30 = some ti30 := by kernel_rfl
    simp only [go_sem, e1, h2, hp]
    rfl
  bu := fun ts h e h2 => by
    have e1 : K.types.get 36 = some ti36 := by kernel_rfl
    simp only [go_sem, e1, h2]
    rfl
  sa := fun ts h n e x h0 h17 hn hx => by
    have e1 : K.types.get 36 = some ti36 := by kernel_rfl
    match x, hx with
    | [x0, x1, x2, x3, x4, x5, x6, x7], _ =>
      simp only [go_sem, e1, h0, h17, hn]
      rfl
noncomputable def recR (args : List W) (h : Go.Ev.H) : Option Go.Ev.H := match args with
  | [_] => some h
  | _ => none
noncomputable def recQ (nb : Nat) (e : Int) (h : Go.Ev.H) : Option O → Option Go.Ev.H
  | some (.row sz [old] ro) => bif Nat.beq sz 8 && Nat.beq old.length 8 && !ro then some (((h.new (.row 1 [[.int .i64 0]] false)).put h.next (.row 1 [[.int .i64 e]] false)).put nb (.row 8 [toldE e] false)) else none
  | _ => none
noncomputable def recP (e : Int) (args : List W) (h : Go.Ev.H) : Option Go.Ev.H := match args with
  | [.c (.ptr nb off)] => bif Nat.beq off 0 then recQ nb e h (h.get nb) else none
  | _ => none
noncomputable def recC : Rec where
  ret := fun g args h => bif Nat.beq g 61 || Nat.beq g 243 then recR args h else none
  pan := fun g args e h => bif Nat.beq g 61 then recP e args h else none
theorem iface20 : Tryz.prog.underlying 20 = some (.interface #[]) := by kernel_rfl
theorem struct113 : ∃ fs, Tryz.prog.underlying 113 = some (.struct fs) := by
  obtain ⟨fs, hfs⟩ : ∃ fs, ti113.desc = .struct fs := ⟨_, rfl⟩
  exact ⟨fs, by rw [fits.und 113 ti113 (by kernel_rfl), hfs]⟩
theorem boxedOf {P : Program} {T : TypeId} {fs : Array Field} (hu : P.underlying T = some (.struct fs)) : Boxed P T := by
  intro x w
  simp [Instr.makeInterface, run_underlying hu w]
theorem boxed113 : Boxed Tryz.prog 113 := by
  obtain ⟨fs, hfs⟩ := struct113
  exact boxedOf hfs
theorem all2_one' {α β : Type} {R : α → β → Prop} {x : α} {l : List β} (h : All2 R [x] l) : l.length = 1 := by
  have := h.length
  simpa using this.symm
theorem recRet {K : Cfg} {P : Program} {g : FuncId} {fn : Func} {body q0 q1 q2 : Code} (F : Fits K P) (H : RecHead body q0 q1 q2 20) (hi : P.underlying 20 = some (.interface #[])) (hf : K.funcs.get g = some fn) (hb : fn.body = some body) (hn : 16 ≤ fn.ntmps) (hres : fn.results = #[]) {args : List W} {h h' : Go.Ev.H} (e : recR args h = some h') :
    Callable P g ∧ ∀ ρ w vals m, Rep K ρ h w → Dom ρ h.next → All2 (ConW ρ) args vals → CallsDIn (Wd none) m P g vals.toArray .returning w fun en u w' => u = .returning ∧ (∃ v, en = .returned v) ∧ ∃ ρ', Aft K ρ h w ρ' h' w' := by
  unfold recR at e
  split at e
  · cases e
    refine ⟨⟨fn, F.funcs g fn hf, by rw [hb]; rfl, F.names g fn hf⟩, fun ρ w vals m hr hd hall => ?_⟩
    have hl := all2_one' hall
    refine (noPan H hi (F.funcs g fn hf) hb hn hres (by rw [List.size_toArray, hl]; omega)).mono ?_
    rintro en u w' ⟨h1, h2, rfl⟩
    exact ⟨h1, h2, ρ, Aft.refl hr⟩
  · cases e
theorem recPan {K : Cfg} {P : Program} {g : FuncId} {fn : Func} {body q0 q1 q2 r2 r3 r4 r5 : Code} {fs : Array Field} (F : Fits K P) (H : RecHead body q0 q1 q2 20) (R : RecRest q2 r2 r3 r4 r5 20 113 30 36) (T : RecTypes K 113 30 36 toldE) (hi : P.underlying 20 = some (.interface #[])) (hu : P.underlying 113 = some (.struct fs)) (hf : K.funcs.get g = some fn) (hb : fn.body = some body) (hn : fn.ntmps = 18) (hres : fn.results = #[]) {args : List W} {z : Int} {h h' : Go.Ev.H} (e : recP z args h = some h') :
    Callable P g ∧ ∀ ρ w vals m, Rep K ρ h w → Dom ρ h.next → All2 (ConW ρ) args vals → CallsDIn (Wd none) m P g vals.toArray (.panicking [{ v := panV 113 z, recovered := false }]) w fun en u w' => settle u = .returning ∧ (∃ v, en = .returned v) ∧ ∃ ρ', Aft K ρ h w ρ' h' w' := by
  unfold recP at e
  split at e
  · rename_i nb off
    cases h0 : Nat.beq off 0 with
    | false => rw [h0] at e; cases e
    | true =>
      rw [h0] at e
      simp only [cond_true] at e
      obtain rfl := Nat.eq_of_beq_eq_true h0
      unfold recQ at e
      split at e
      · rename_i sz old ro ho
        cases h1 : (Nat.beq sz 8 && Nat.beq old.length 8 && !ro) with
        | false => rw [h1] at e; cases e
        | true =>
          rw [h1] at e
          simp only [cond_true] at e
          cases e
          simp only [Bool.and_eq_true] at h1
          obtain rfl := Nat.eq_of_beq_eq_true h1.1.1
          have hl := Nat.eq_of_beq_eq_true h1.1.2
          cases ro with
          | true => cases h1.2
          | false => exact ⟨⟨fn, F.funcs g fn hf, by rw [hb]; rfl, F.names g fn hf⟩, fun ρ w vals m hr hd hall => didPan F H R T hi hu (F.funcs g fn hf) hb hn hres ho hl hr hd hall⟩
      · cases e
  · cases e
theorem recC_ok : RecOk K Tryz.prog 113 recC where
  ret := fun g args h h' e => by
    simp only [recC] at e
    cases h1 : Nat.beq g 61 with
    | true =>
      rw [h1] at e
      obtain rfl := Nat.eq_of_beq_eq_true h1
      exact recRet (fn := Tryz.f61) (body := q61 []) fits tryHead iface20 (by kernel_rfl) (by kernel_rfl) (Nat.le_of_ble_eq_true (by kernel_rfl)) (by kernel_rfl) e
    | false =>
      rw [h1] at e
      cases h2 : Nat.beq g 243 with
      | true =>
        rw [h2] at e
        obtain rfl := Nat.eq_of_beq_eq_true h2
        exact recRet (fn := Tryz.f243) (body := q243 []) fits examHead iface20 (by kernel_rfl) (by kernel_rfl) (Nat.le_of_ble_eq_true (by kernel_rfl)) (by kernel_rfl) e
      | false => rw [h2] at e; cases e
  pan := fun g args z h h' e => by
    simp only [recC] at e
    cases h1 : Nat.beq g 61 with
    | true =>
      rw [h1] at e
      obtain rfl := Nat.eq_of_beq_eq_true h1
      obtain ⟨fs, hfs⟩ := struct113
      exact recPan (fn := Tryz.f61) (body := q61 []) fits tryHead tryRest tryTypes iface20 hfs (by kernel_rfl) (by kernel_rfl) (by kernel_rfl) (by kernel_rfl) e
    | false => rw [h1] at e; cases e
end Go.Proofs.YtdnkofpkkebefaaGreatDoor
