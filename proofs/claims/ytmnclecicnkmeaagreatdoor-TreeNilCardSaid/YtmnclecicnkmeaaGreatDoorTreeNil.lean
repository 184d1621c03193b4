/- TreeNil, whatever it is given: true, and what it is given reads as it did; the table of crc starts as the program's text lays it. -/
import Derived.Test.YtmnclecicnkmeaaGreatDoorRows
import Derived.Test.YtmnclecicnkmeaaGreatDoorCards
import Derived.Test.YtmnclecicnkmeaaGreatDoorTie
import Derived.Test.YtmnclecicnkmeaaGreatDoorFits
import Derived.Test.YtmnclecicnkmeaaGreatDoorHeart
import Derived.Test.YtmnclecicnkmeaaGreatDoorLaw30
import Derived.Test.YtmnclecicnkmeaaGreatDoorEvC
import Derived.ProofKit
import Derived.LaidMore
import Derived.OpenShut
import Derived.Stop.Joined
import Derived.Lib.SmallJoins
import Derived.Carry
import Derived.Below
import Derived.SevenTiedAt
set_option linter.unusedSimpArgs false
set_option linter.unusedVariables false
set_option linter.unusedSectionVars false
namespace Go.Proofs.YtmnclecicnkmeaaGreatDoor.treeNil
open Go.ChangeShapes Go.WideShapes Go.ChangeAt Go.WideMaps Go.WideElems Go.RowKit
open Go.Ev (callsX_true callsOk_true of_laid steps16 isTrue)
theorem own : ownKnob Tryz.prog.godebug = none := by kernel_rfl
theorem laidOut : laidOutB Tryz.prog = true := by kernel_rfl
theorem gSteps : Tryz.prog.globalNamed "quern/crc.steps" = some 1 := by kernel_rfl
theorem door_met (os : Os) (args : Array Value) : laidMetH Tryz.prog [("quern/crc.steps", Rows.laid_quern_crc_steps)] ((World.doorLaid Tryz.prog 400 os).forCall (fun _ _ => 0) ⟨#[], args, []⟩).memory :=
  laidMetH_of_parts3 (fuel := 8) (laidMet_of_run' 8 (by kernel_rfl) (by kernel_rfl)) (by kernel_rfl) (by kernel_rfl)
set_option maxRecDepth 100000 in
theorem lifted (os : Os) (started : os.Started) (H : Type) (enc : TypeId × Value → H) :
    ReturnsInHanded {} Tryz.checked os 3 .any (fun w args => (Rows.treeNilSpec.pre enc Tryz.prog Tryz.f3 [] false w args ∧ laidMetH Tryz.prog [("quern/crc.steps", Rows.laid_quern_crc_steps)] w) ∧ sizedMet enc Tryz.prog Tryz.f3 (OpenSpec.ofChange Rows.treeNilSpec) false w args)
      (Rows.treeNilSpec.post enc Tryz.prog Tryz.f3 false true false false) := by
  refine returnsInHanded_of_change_and (C := Tryz.checked) (X := fun w _ => laidMetH Tryz.prog [("quern/crc.steps", Rows.laid_quern_crc_steps)] w) (fun _ _ _ hh h => h.of_heap hh) own started (by kernel_rfl) Tryz.func3
    (ChangeSpec.witness_shaped (enc := enc) (C := Tryz.checked) (os := os) (X := fun w _ => laidMetH Tryz.prog [("quern/crc.steps", Rows.laid_quern_crc_steps)] w) false (World.doorLaid Tryz.prog 400 os) #[.agg #[.int .u8 0, .int .i64 0, .int .i64 0, .string ⟨#[]⟩, .string ⟨#[]⟩]] 8 rfl (World.shaped_of_RefB (by kernel_rfl) (by kernel_rfl)) (by kernel_rfl) (by kernel_rfl) (by kernel_rfl) (door_met os _)) ?_
  intro W base args ds gs before hval0 hW _ _ hL _
  have hval : ∀ (j : Nat) t v, Tryz.f3.params[j]? = some t → args[j]? = some v → Value.okWide Tryz.prog W .any base t v := hval0
  have hW' := hW
  obtain ⟨p, q, hA0, hV, rfl, hfz, hnd⟩ := hW
  have hA : DataW.TrodAll enc Tryz.prog W 0 (fun _ => true) true Tryz.f3.params.toList args.toList ds p := hA0
  rw [Tryz.params3] at hA hval
  obtain ⟨v0, d0, rfl, rfl, h0⟩ := trodAll_one hA
  obtain ⟨rfl, rfl⟩ := trodVars_none hV
  have k0 := h0
  have lt0 : ∀ x ∈ p, x.block < W.heap.size := by obtain ⟨m, hm⟩ := k0; exact DataW.trod_lt m _ _ _ hm
  obtain ⟨cs0, rfl, ks0n0⟩ := Go.Ev.agg_kinds (n := 8) Tryz.underlying23 (show Go.Ev.kinds Tryz.prog 8 23 = some [.int .u8, .int .i64, .int .i64, .str, .str] by kernel_rfl) (hval 0 23 v0 rfl rfl) h0
  obtain ⟨_, _, rfl, ⟨a0x0, rfl⟩, ks0n1⟩ := Go.Ev.has1 ks0n0
  clear ks0n0
  obtain ⟨_, _, rfl, ⟨a0x1, rfl⟩, ks0n2⟩ := Go.Ev.has1 ks0n1
  clear ks0n1
  obtain ⟨_, _, rfl, ⟨a0x2, rfl⟩, ks0n3⟩ := Go.Ev.has1 ks0n2
  clear ks0n2
  obtain ⟨_, _, rfl, ⟨a0x3, rfl⟩, ks0n4⟩ := Go.Ev.has1 ks0n3
  clear ks0n3
  obtain ⟨⟨a0x3⟩⟩ := a0x3
  obtain ⟨_, _, rfl, ⟨a0x4, rfl⟩, ks0n5⟩ := Go.Ev.has1 ks0n4
  clear ks0n4
  obtain ⟨⟨a0x4⟩⟩ := a0x4
  obtain rfl := Go.Ev.has0 ks0n5
  obtain ⟨cs, t, fr, hb, hcs⟩ := of_laid gSteps (by kernel_rfl) Tryz.underlying451 Tryz.underlying61 (by kernel_rfl) (by kernel_rfl) hL
  clear hA0 hval0
  obtain ⟨hEnd, ck⟩ := lawOk hearts a0x0 a0x1 a0x2 a0x3 a0x4
  refine (callsOk_true gl hb hcs ck (vals := [.agg #[.int .u8 a0x0, .int .i64 a0x1, .int .i64 a0x2, .string ⟨⟨a0x3⟩⟩, .string ⟨⟨a0x4⟩⟩]]) ⟨⟨_, rfl, rfl, rfl, rfl, rfl, rfl, trivial⟩, trivial⟩).mono fun e W' ⟨he, bel⟩ => ?_
  subst he
  exact ⟨_, rfl, _, _, _, [], _, [], hW', trodAll_mk1 (shut_bool Tryz.underlying4 _), trodAll_cons_mk (Below.trod laidOut (by kernel_rfl) (of_decide_eq_true (by kernel_rfl)) k0 bel lt0) trodAll_mk0, rfl, bel.frame _, fun h => by cases h⟩
theorem and_t {a b : Bool} (h : a = true) (k : b = true) : (a && b) = true := by rw [h, k]; rfl
set_option maxHeartbeats 40000000 in
theorem facts : joinedFacts Tryz.pinned.checked.prog 3 Tryz.f3 Rows.treeNilSpec Rows.treeNilRow = true := by
  unfold joinedFacts
  repeat' with_reducible apply and_t
  all_goals (as_aux_lemma => kernel_rfl)
theorem said : Rows.TreeNilSaid :=
  OpenClaim.holds_of_wide 3 Tryz.f3 rfl rfl rfl rfl rfl rfl rfl ⟨rfl, rfl, rfl, rfl, rfl⟩ rfl rfl rfl rfl rfl (by as_aux_lemma => kernel_rfl) Tryz.func3 facts
    (of_decide_eq_true (by kernel_rfl)) (by unfold Func.isWrapper; first | (rw [if_pos (by decide +kernel)]; kernel_rfl) | (rw [if_neg (by decide +kernel)]; exact ⟨rfl, rfl⟩))
    (fun os started H enc _ => lifted os started H enc)
theorem proved : Rows.TreeNilCardSaid :=
  Claim7.holds_tied_plain_at .later [] [.data] true (true, "de1a851f651576d2df82942cd1526386d079472f847b5177325035ebd5eb7676") true
    said (fun _ h => by cases h) (by as_aux_lemma => kernel_rfl) (fun _ h => by cases h) treeNil_row_tie rfl ⟨rfl, rfl⟩ (by as_aux_lemma => kernel_rfl) rfl
    (fun f fn hf hfn => by
      obtain rfl : f = 3 := Option.some.inj ((show Tryz.prog.funcNamed "quern/quernlaw30.TreeNil" = some 3 by as_aux_lemma => kernel_rfl).symm.trans hf) |>.symm
      obtain rfl : fn = Tryz.f3 := (Option.some.inj (Tryz.func3.symm.trans hfn)).symm
      exact ⟨by as_aux_lemma => kernel_rfl, fun j t ht => by
        rw [Tryz.params3] at ht
        have h3 : t = 23 := by
          rcases j with _ | j
          · simp at ht; simp [ht]
          · simp at ht
        rcases h3 with rfl
        · exact (show Tryz.prog.wantsStandIn 23 = false by kernel_rfl)⟩)
    (by as_aux_lemma => kernel_rfl)
#print axioms proved
end Go.Proofs.YtmnclecicnkmeaaGreatDoor.treeNil
