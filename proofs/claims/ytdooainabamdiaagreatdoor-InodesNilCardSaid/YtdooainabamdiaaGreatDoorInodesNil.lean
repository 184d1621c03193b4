/- InodesNil, whatever it is given: true, and what it is given reads as it did; the table of crc starts as the program's text lays it. -/
import Derived.Test.YtdooainabamdiaaGreatDoorRows
import Derived.Test.YtdooainabamdiaaGreatDoorCards
import Derived.Test.YtdooainabamdiaaGreatDoorTie
import Derived.Test.YtdooainabamdiaaGreatDoorFits
import Derived.Test.YtdooainabamdiaaGreatDoorHeart
import Derived.Test.YtdooainabamdiaaGreatDoorRun
import Derived.Test.YtdooainabamdiaaGreatDoorEvC
import Derived.ProofKit
import Derived.LaidMore
import Derived.OpenShut
import Derived.Stop.Joined
import Derived.Lib.SmallJoins
import Derived.Carry
import Derived.Below
import Derived.SevenTiedAt
set_option linter.unusedSimpArgs false
set_option linter.unusedVariables false
set_option linter.unusedSectionVars false
namespace Go.Proofs.YtdooainabamdiaaGreatDoor.inodesNil
open Go.ChangeShapes Go.WideShapes Go.ChangeAt Go.WideMaps Go.WideElems Go.RowKit
open Go.Ev (callsX_true of_laid steps16 isTrue)

theorem own : ownKnob Tryz.prog.godebug = none := by kernel_rfl
theorem laidOut : laidOutB Tryz.prog = true := by kernel_rfl
theorem gSteps : Tryz.prog.globalNamed "quern/crc.steps" = some 0 := by kernel_rfl

/-- The door's own heap meets the condition. -/
theorem door_met (os : Os) (args : Array Value) : laidMetH Tryz.prog [("quern/crc.steps", Rows.laid_quern_crc_steps)] ((World.doorLaid Tryz.prog 400 os).forCall (fun _ _ => 0) ⟨#[], args, []⟩).memory :=
  laidMetH_of_parts3 (fuel := 8) (laidMet_of_run' 8 (by kernel_rfl) (by kernel_rfl)) (by kernel_rfl) (by kernel_rfl)

set_option maxRecDepth 100000 in
theorem lifted (os : Os) (started : os.Started) (H : Type) (enc : TypeId × Value → H) :
    ReturnsInHanded {} Tryz.checked os 3 .any (fun w args => (Rows.inodesNilSpec.pre enc Tryz.prog Tryz.f3 [] false w args ∧ laidMetH Tryz.prog [("quern/crc.steps", Rows.laid_quern_crc_steps)] w) ∧ sizedMet enc Tryz.prog Tryz.f3 (OpenSpec.ofChange Rows.inodesNilSpec) false w args)
      (Rows.inodesNilSpec.post enc Tryz.prog Tryz.f3 false true false false) := by
  refine returnsInHanded_of_change_and (C := Tryz.checked) (X := fun w _ => laidMetH Tryz.prog [("quern/crc.steps", Rows.laid_quern_crc_steps)] w) (fun _ _ _ hh h => h.of_heap hh) own started (by kernel_rfl) Tryz.func3
    (ChangeSpec.witness_shaped (enc := enc) (C := Tryz.checked) (os := os) (X := fun w _ => laidMetH Tryz.prog [("quern/crc.steps", Rows.laid_quern_crc_steps)] w) false (World.doorLaid Tryz.prog 400 os) #[.int .i64 0, .agg #[.int .u8 0, .int .i64 0, .int .u32 0, .int .i64 0, .int .u32 0, .int .u32 0, .int .u32 0, .int .u32 0, .int .u32 0, .int .u32 0, .int .u32 0, .int .u32 0, .int .u32 0, .int .u32 0, .int .u32 0, .int .u32 0]] 8 rfl (World.shaped_of_RefB (by kernel_rfl) (by kernel_rfl)) (by kernel_rfl) (by kernel_rfl) (by kernel_rfl) (door_met os _)) ?_
  intro W base args ds gs before hval0 hW _ _ hL _
  have hval : ∀ (j : Nat) t v, Tryz.f3.params[j]? = some t → args[j]? = some v → Value.okWide Tryz.prog W .any base t v := hval0
  have hW' := hW
  obtain ⟨p, q, hA0, hV, rfl, hfz, hnd⟩ := hW
  have hA : DataW.TrodAll enc Tryz.prog W 0 (fun _ => true) true Tryz.f3.params.toList args.toList ds p := hA0
  rw [Tryz.params3] at hA hval
  obtain ⟨v0, v1, d0, d1, p0, p1, rfl, rfl, hp, h0, h1⟩ := trodAll_two hA
  obtain ⟨rfl, rfl⟩ := trodVars_none hV
  have k0 := h0
  have lt0 : ∀ x ∈ p0, x.block < W.heap.size := by obtain ⟨m, hm⟩ := k0; exact DataW.trod_lt m _ _ _ hm
  have k1 := h1
  have lt1 : ∀ x ∈ p1, x.block < W.heap.size := by obtain ⟨m, hm⟩ := k1; exact DataW.trod_lt m _ _ _ hm
  obtain ⟨z0, rfl, rfl, rfl, _⟩ := open_int Tryz.underlying3 (hval 0 3 v0 rfl rfl) h0
  obtain ⟨cs1, rfl, ks1n0⟩ := Go.Ev.agg_kinds (n := 8) Tryz.underlying25 (show Go.Ev.kinds Tryz.prog 8 25 = some [.int .u8, .int .i64, .int .u32, .int .i64, .int .u32, .int .u32, .int .u32, .int .u32, .int .u32, .int .u32, .int .u32, .int .u32, .int .u32, .int .u32, .int .u32, .int .u32] by kernel_rfl) (hval 1 25 v1 rfl rfl) h1
  obtain ⟨_, _, rfl, ⟨a1x0, rfl⟩, ks1n1⟩ := Go.Ev.has1 ks1n0
  clear ks1n0
  obtain ⟨_, _, rfl, ⟨a1x1, rfl⟩, ks1n2⟩ := Go.Ev.has1 ks1n1
  clear ks1n1
  obtain ⟨_, _, rfl, ⟨a1x2, rfl⟩, ks1n3⟩ := Go.Ev.has1 ks1n2
  clear ks1n2
  obtain ⟨_, _, rfl, ⟨a1x3, rfl⟩, ks1n4⟩ := Go.Ev.has1 ks1n3
  clear ks1n3
  obtain ⟨_, _, rfl, ⟨a1x4, rfl⟩, ks1n5⟩ := Go.Ev.has1 ks1n4
  clear ks1n4
  obtain ⟨_, _, rfl, ⟨a1x5, rfl⟩, ks1n6⟩ := Go.Ev.has1 ks1n5
  clear ks1n5
  obtain ⟨_, _, rfl, ⟨a1x6, rfl⟩, ks1n7⟩ := Go.Ev.has1 ks1n6
  clear ks1n6
  obtain ⟨_, _, rfl, ⟨a1x7, rfl⟩, ks1n8⟩ := Go.Ev.has1 ks1n7
  clear ks1n7
  obtain ⟨_, _, rfl, ⟨a1x8, rfl⟩, ks1n9⟩ := Go.Ev.has1 ks1n8
  clear ks1n8
  obtain ⟨_, _, rfl, ⟨a1x9, rfl⟩, ks1n10⟩ := Go.Ev.has1 ks1n9
  clear ks1n9
  obtain ⟨_, _, rfl, ⟨a1x10, rfl⟩, ks1n11⟩ := Go.Ev.has1 ks1n10
  clear ks1n10
  obtain ⟨_, _, rfl, ⟨a1x11, rfl⟩, ks1n12⟩ := Go.Ev.has1 ks1n11
  clear ks1n11
  obtain ⟨_, _, rfl, ⟨a1x12, rfl⟩, ks1n13⟩ := Go.Ev.has1 ks1n12
  clear ks1n12
  obtain ⟨_, _, rfl, ⟨a1x13, rfl⟩, ks1n14⟩ := Go.Ev.has1 ks1n13
  clear ks1n13
  obtain ⟨_, _, rfl, ⟨a1x14, rfl⟩, ks1n15⟩ := Go.Ev.has1 ks1n14
  clear ks1n14
  obtain ⟨_, _, rfl, ⟨a1x15, rfl⟩, ks1n16⟩ := Go.Ev.has1 ks1n15
  clear ks1n15
  obtain rfl := Go.Ev.has0 ks1n16
  obtain ⟨cs, t, fr, hb, hcs⟩ := of_laid gSteps (by kernel_rfl) Tryz.underlying240 Tryz.underlying22 (by kernel_rfl) (by kernel_rfl) hL
  clear hA0 hval0
  refine (callsX_true fits hearts (xawK_ok hearts) (by kernel_rfl) hb hcs (runs z0 a1x0 a1x1 a1x2 a1x3 a1x4 a1x5 a1x6 a1x7 a1x8 a1x9 a1x10 a1x11 a1x12 a1x13 a1x14 a1x15) (vals := [.int .i64 z0, .agg #[.int .u8 a1x0, .int .i64 a1x1, .int .u32 a1x2, .int .i64 a1x3, .int .u32 a1x4, .int .u32 a1x5, .int .u32 a1x6, .int .u32 a1x7, .int .u32 a1x8, .int .u32 a1x9, .int .u32 a1x10, .int .u32 a1x11, .int .u32 a1x12, .int .u32 a1x13, .int .u32 a1x14, .int .u32 a1x15]]) ⟨rfl, ⟨_, rfl, rfl, rfl, rfl, rfl, rfl, rfl, rfl, rfl, rfl, rfl, rfl, rfl, rfl, rfl, rfl, rfl, trivial⟩, trivial⟩).mono fun e W' ⟨he, bel⟩ => ?_
  subst he
  exact ⟨_, rfl, _, _, _, [], _, [], hW', trodAll_mk1 (shut_bool Tryz.underlying4 _), trodAll_cons_mk (Below.trod laidOut (by kernel_rfl) (of_decide_eq_true (by kernel_rfl)) k0 bel lt0) (trodAll_cons_mk (Below.trod laidOut (by kernel_rfl) (of_decide_eq_true (by kernel_rfl)) k1 bel lt1) trodAll_mk0), rfl, bel.frame _, fun h => by cases h⟩

theorem said : Rows.InodesNilSaid :=
  OpenClaim.holds_of_wide 3 Tryz.f3 rfl rfl rfl rfl rfl rfl rfl ⟨rfl, rfl, rfl, rfl, rfl⟩ rfl rfl rfl rfl rfl (by kernel_rfl) Tryz.func3 (by kernel_rfl)
    (of_decide_eq_true (by kernel_rfl)) (by unfold Func.isWrapper; first | (rw [if_pos (by decide +kernel)]; kernel_rfl) | (rw [if_neg (by decide +kernel)]; exact ⟨rfl, rfl⟩))
    (fun os started H enc _ => lifted os started H enc)

theorem proved : Rows.InodesNilCardSaid :=
  Claim7.holds_tied_plain_at .later [] [.data] true (true, "f169f0489a6711df95d35071df69508a549709d60695607f2de3769f7f423109") true
    said (fun _ h => by cases h) (by kernel_rfl) (fun _ h => by cases h) inodesNil_row_tie rfl ⟨rfl, rfl⟩ (by kernel_rfl) rfl
    (fun f fn hf hfn => by
      obtain rfl : f = 3 := Option.some.inj ((show Tryz.prog.funcNamed "quern/quernlaw24.InodesNil" = some 3 by kernel_rfl).symm.trans hf) |>.symm
      obtain rfl : fn = Tryz.f3 := (Option.some.inj (Tryz.func3.symm.trans hfn)).symm
      exact ⟨by kernel_rfl, fun j t ht => by
        rw [Tryz.params3] at ht
        have h3 : t = 3 ∨ t = 25 := by
          rcases j with _ | j
          · simp at ht; simp [ht]
          · rcases j with _ | j
            · simp at ht; simp [ht]
            · simp at ht
        rcases h3 with rfl | rfl
        · exact (show Tryz.prog.wantsStandIn 3 = false by kernel_rfl)
        · exact (show Tryz.prog.wantsStandIn 25 = false by kernel_rfl)⟩)
    (by kernel_rfl)
#print axioms proved
end Go.Proofs.YtdooainabamdiaaGreatDoor.inodesNil
