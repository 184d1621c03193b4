/- DataHoles, whatever it is given: true, and what it is given reads as it did; the table of crc starts as the program's text lays it. -/
import Derived.Test.YtgikjeaipmeclaaGreatDoorRows
import Derived.Test.YtgikjeaipmeclaaGreatDoorCards
import Derived.Test.YtgikjeaipmeclaaGreatDoorTie
import Derived.Test.YtgikjeaipmeclaaGreatDoorFits
import Derived.Test.YtgikjeaipmeclaaGreatDoorHeart
import Derived.Test.YtgikjeaipmeclaaGreatDoorDlk
import Derived.Test.YtgikjeaipmeclaaGreatDoorEvC
import Derived.ProofKit
import Derived.LaidMore
import Derived.OpenShut
import Derived.Stop.Joined
import Derived.Lib.SmallJoins
import Derived.Carry
import Derived.Below
import Derived.SevenTiedAt
set_option linter.unusedSimpArgs false
set_option linter.unusedVariables false
set_option linter.unusedSectionVars false
namespace Go.Proofs.YtgikjeaipmeclaaGreatDoor.dataHoles
open Go.ChangeShapes Go.WideShapes Go.ChangeAt Go.WideMaps Go.WideElems Go.RowKit
open Go.Ev (Zb7 Wx Zcs steps16 isTrue)
theorem own:ownKnob Tryz.prog.godebug=none:=by kernel_rfl
theorem laidOut:laidOutB Tryz.prog=true:=by kernel_rfl
theorem Tc {H:Type} {enc:TypeId × Value→H} {P:Program} {w:World} {base:Nat} {spare:Nat→Bool} {held:Bool} {t0 t1 t2 t3 t4 t5 t6:TypeId} {args:Array Value} {ds:List (DataW H)} {ps:List MemPlace} (h:DataW.TrodAll enc P w base spare held [t0,t1,t2,t3,t4,t5,t6] args.toList ds ps) :
  ∃ v0 v1 v2 v3 v4 v5 v6 d0 d1 d2 d3 d4 d5 d6 p0 p1 p2 p3 p4 p5 p6,args = #[v0,v1,v2,v3,v4,v5,v6]∧ds=[d0,d1,d2,d3,d4,d5,d6]∧True∧DataW.Trod enc P w base spare held t0 v0 d0 p0∧DataW.Trod enc P w base spare held t1 v1 d1 p1∧DataW.Trod enc P w base spare held t2 v2 d2 p2∧DataW.Trod enc P w base spare held t3 v3 d3 p3∧DataW.Trod enc P w base spare held t4 v4 d4 p4∧DataW.Trod enc P w base spare held t5 v5 d5 p5∧DataW.Trod enc P w base spare held t6 v6 d6 p6:=by
 obtain⟨v0,e0,d0,s0,p0,q0,ha,rfl,rfl,h0,g0⟩:=trodAll_cons h
 obtain⟨v1,e1,d1,s1,p1,q1,rfl,rfl,rfl,h1,g1⟩:=trodAll_cons g0
 obtain⟨v2,e2,d2,s2,p2,q2,rfl,rfl,rfl,h2,g2⟩:=trodAll_cons g1
 obtain⟨v3,e3,d3,s3,p3,q3,rfl,rfl,rfl,h3,g3⟩:=trodAll_cons g2
 obtain⟨v4,e4,d4,s4,p4,q4,rfl,rfl,rfl,h4,g4⟩:=trodAll_cons g3
 obtain⟨v5,e5,d5,s5,p5,q5,rfl,rfl,rfl,h5,g5⟩:=trodAll_cons g4
 obtain⟨v6,e6,d6,s6,p6,q6,rfl,rfl,rfl,h6,g6⟩:=trodAll_cons g5
 obtain⟨rfl,rfl,rfl⟩:=trodAll_nil g6
 exact⟨v0,v1,v2,v3,v4,v5,v6,d0,d1,d2,d3,d4,d5,d6,p0,p1,p2,p3,p4,p5,p6,by cases args; simp_all,rfl,trivial,h0,h1,h2,h3,h4,h5,h6⟩
theorem gSteps:Tryz.prog.globalNamed "quern/crc.steps" = some 0:=by kernel_rfl
theorem door_met (os:Os) (args:Array Value):laidMetH Tryz.prog [("quern/crc.steps",Rows.laid_quern_crc_steps)] ((World.doorLaid Tryz.prog 400 os).forCall (fun _ _=>0) ⟨#[],args,[]⟩).memory :=
 laidMetH_of_parts3 (fuel:=8) (laidMet_of_run' 8 (by kernel_rfl) (by kernel_rfl)) (by kernel_rfl) (by kernel_rfl)
set_option maxRecDepth 100000 in
theorem lifted (os:Os) (started:os.Started) (H:Type) (enc:TypeId × Value→H) :
  ReturnsInHanded {} Tryz.checked os 4 .any (fun w args=>(Rows.dataHolesSpec.pre enc Tryz.prog Tryz.f4 [] false w args∧laidMetH Tryz.prog [("quern/crc.steps",Rows.laid_quern_crc_steps)] w)∧sizedMet enc Tryz.prog Tryz.f4 (OpenSpec.ofChange Rows.dataHolesSpec) false w args)
   (Rows.dataHolesSpec.post enc Tryz.prog Tryz.f4 false true false false):=by
 refine returnsInHanded_of_change_and (C:=Tryz.checked) (X:=fun w _=>laidMetH Tryz.prog [("quern/crc.steps",Rows.laid_quern_crc_steps)] w) (fun _ _ _ hh h=>h.of_heap hh) own started (by kernel_rfl) Tryz.func4
  (ChangeSpec.witness_shaped (enc:=enc) (C:=Tryz.checked) (os:=os) (X:=fun w _=>laidMetH Tryz.prog [("quern/crc.steps",Rows.laid_quern_crc_steps)] w) false (World.doorLaid Tryz.prog 400 os) #[.int .u8 0,.int .i64 0,.int .i64 0,.int .i64 0,.int .u8 0,.int .i64 0,.int .i64 0] 8 rfl (World.shaped_of_RefB (by kernel_rfl) (by kernel_rfl)) (by kernel_rfl) (by kernel_rfl) (by kernel_rfl) (door_met os _)) ?_
 intro W base args ds gs before hval0 hW _ _ hL _
 have hval:∀ (j:Nat) t v,Tryz.f4.params[j]? = some t→args[j]? = some v→Value.okWide Tryz.prog W .any base t v:=hval0
 have hW':=hW
 obtain⟨p,q,hA0,hV,rfl,hfz,hnd⟩:=hW
 have hA:DataW.TrodAll enc Tryz.prog W 0 (fun _=>true) true Tryz.f4.params.toList args.toList ds p:=hA0
 rw[Tryz.params4] at hA hval
 obtain⟨v0,v1,v2,v3,v4,v5,v6,d0,d1,d2,d3,d4,d5,d6,p0,p1,p2,p3,p4,p5,p6,rfl,rfl,hp,h0,h1,h2,h3,h4,h5,h6⟩:=Tc hA
 obtain⟨rfl,rfl⟩:=trodVars_none hV
 have k0:=h0
 have lt0:∀ x∈p0,x.block<W.heap.size:=by obtain⟨m,hm⟩:=k0; exact DataW.trod_lt m _ _ _ hm
 have k1:=h1
 have lt1:∀ x∈p1,x.block<W.heap.size:=by obtain⟨m,hm⟩:=k1; exact DataW.trod_lt m _ _ _ hm
 have k2:=h2
 have lt2:∀ x∈p2,x.block<W.heap.size:=by obtain⟨m,hm⟩:=k2; exact DataW.trod_lt m _ _ _ hm
 have k3:=h3
 have lt3:∀ x∈p3,x.block<W.heap.size:=by obtain⟨m,hm⟩:=k3; exact DataW.trod_lt m _ _ _ hm
 have k4:=h4
 have lt4:∀ x∈p4,x.block<W.heap.size:=by obtain⟨m,hm⟩:=k4; exact DataW.trod_lt m _ _ _ hm
 have k5:=h5
 have lt5:∀ x∈p5,x.block<W.heap.size:=by obtain⟨m,hm⟩:=k5; exact DataW.trod_lt m _ _ _ hm
 have k6:=h6
 have lt6:∀ x∈p6,x.block<W.heap.size:=by obtain⟨m,hm⟩:=k6; exact DataW.trod_lt m _ _ _ hm
 obtain⟨z0,rfl,rfl,rfl,wf0⟩:=open_int Tryz.underlying5 (hval 0 5 v0 rfl rfl) h0
 obtain⟨z1,rfl,rfl,rfl,wf1⟩:=open_int Tryz.underlying3 (hval 1 3 v1 rfl rfl) h1
 obtain⟨z2,rfl,rfl,rfl,wf2⟩:=open_int Tryz.underlying3 (hval 2 3 v2 rfl rfl) h2
 obtain⟨z3,rfl,rfl,rfl,wf3⟩:=open_int Tryz.underlying3 (hval 3 3 v3 rfl rfl) h3
 obtain⟨z4,rfl,rfl,rfl,wf4⟩:=open_int Tryz.underlying5 (hval 4 5 v4 rfl rfl) h4
 obtain⟨z5,rfl,rfl,rfl,wf5⟩:=open_int Tryz.underlying3 (hval 5 3 v5 rfl rfl) h5
 obtain⟨z6,rfl,rfl,rfl,wf6⟩:=open_int Tryz.underlying3 (hval 6 3 v6 rfl rfl) h6
 obtain⟨cs,t,fr,hb,hcs⟩:=Zcs gSteps (by kernel_rfl) Tryz.underlying381 Tryz.underlying34 (by kernel_rfl) (by kernel_rfl) hL
 clear hA0 hval0
 have calls:=Zkh Zw7 hb hcs z0 z1 z2 z3 z4 z5 z6 wf0 wf4
 refine calls.mono fun e W' ⟨he,bel⟩=>?_
 subst he
 exact⟨_,rfl,_,_,_,[],_,[],hW',trodAll_mk1 (shut_bool Tryz.underlying4 _),trodAll_cons_mk (Below.trod laidOut (by kernel_rfl) (of_decide_eq_true (by kernel_rfl)) k0 bel lt0) (trodAll_cons_mk (Below.trod laidOut (by kernel_rfl) (of_decide_eq_true (by kernel_rfl)) k1 bel lt1) (trodAll_cons_mk (Below.trod laidOut (by kernel_rfl) (of_decide_eq_true (by kernel_rfl)) k2 bel lt2) (trodAll_cons_mk (Below.trod laidOut (by kernel_rfl) (of_decide_eq_true (by kernel_rfl)) k3 bel lt3) (trodAll_cons_mk (Below.trod laidOut (by kernel_rfl) (of_decide_eq_true (by kernel_rfl)) k4 bel lt4) (trodAll_cons_mk (Below.trod laidOut (by kernel_rfl) (of_decide_eq_true (by kernel_rfl)) k5 bel lt5) (trodAll_cons_mk (Below.trod laidOut (by kernel_rfl) (of_decide_eq_true (by kernel_rfl)) k6 bel lt6) trodAll_mk0)))))),rfl,bel.frame _,fun h=>by cases h⟩
theorem Zs6 {a b:Bool} (h:a=true) (k:b=true):(a&&b)=true:=by rw[h,k]; rfl
set_option maxHeartbeats 40000000 in
theorem facts:joinedFacts Tryz.pinned.checked.prog 4 Tryz.f4 Rows.dataHolesSpec Rows.dataHolesRow=true:=by
 unfold joinedFacts
 repeat' with_reducible apply Zs6
 all_goals (as_aux_lemma=>kernel_rfl)
theorem said:Rows.DataHolesSaid :=
 OpenClaim.holds_of_wide 4 Tryz.f4 rfl rfl rfl rfl rfl rfl rfl ⟨rfl,rfl,rfl,rfl,rfl⟩ rfl rfl rfl rfl rfl (by as_aux_lemma=>kernel_rfl) Tryz.func4 facts
  (of_decide_eq_true (by kernel_rfl)) (by unfold Func.isWrapper; first|(rw[if_pos (by decide +kernel)]; kernel_rfl)|(rw[if_neg (by decide +kernel)]; exact⟨rfl,rfl⟩))
  (fun os started H enc _=>lifted os started H enc)
theorem proved:Rows.DataHolesCardSaid :=
 Claim7.holds_tied_plain_at .later [] [.data] true (true, "79f43452d0d948774bbc1b0523cb2429f3540db35da5b653454ba7c18be22edb") true
  said (fun _ h=>by cases h) (by as_aux_lemma=>kernel_rfl) (fun _ h=>by cases h) dataHoles_row_tie rfl ⟨rfl,rfl⟩ (by as_aux_lemma=>kernel_rfl) rfl
  (fun f fn hf hfn=>by
   obtain rfl:f=4:=Option.some.inj ((show Tryz.prog.funcNamed "quern/quernlaw26.DataHoles" = some 4 by as_aux_lemma=>kernel_rfl).symm.trans hf) |>.symm
   obtain rfl:fn=Tryz.f4:=(Option.some.inj (Tryz.func4.symm.trans hfn)).symm
   exact⟨by as_aux_lemma=>kernel_rfl,fun j t ht=>by
    rw[Tryz.params4] at ht
    have h3:t=5∨t=3:=by
     rcases j with _|j
     ·simp at ht; simp [ht]
     ·rcases j with _|j
      ·simp at ht; simp [ht]
      ·rcases j with _|j
       ·simp at ht; simp [ht]
       ·rcases j with _|j
        ·simp at ht; simp [ht]
        ·rcases j with _|j
         ·simp at ht; simp [ht]
         ·rcases j with _|j
          ·simp at ht; simp [ht]
          ·rcases j with _|j
           ·simp at ht; simp [ht]
           ·simp at ht
    rcases h3 with rfl|rfl
    ·exact (show Tryz.prog.wantsStandIn 5=false by kernel_rfl)
    ·exact (show Tryz.prog.wantsStandIn 3=false by kernel_rfl)⟩)
  (by as_aux_lemma=>kernel_rfl)
#print axioms proved
end Go.Proofs.YtgikjeaipmeclaaGreatDoor.dataHoles
