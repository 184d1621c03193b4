/- InodesBack, whatever it is given: true, and what it is given reads as it did; the table of crc starts as the program's text lays it. -/
import Derived.Test.YtmdibcklpmeleaaGreatDoorRows
import Derived.Test.YtmdibcklpmeleaaGreatDoorCards
import Derived.Test.YtmdibcklpmeleaaGreatDoorTie
import Derived.Test.YtmdibcklpmeleaaGreatDoorFits
import Derived.Test.YtmdibcklpmeleaaGreatDoorHeart
import Derived.Test.YtmdibcklpmeleaaGreatDoorArb
import Derived.Test.YtmdibcklpmeleaaGreatDoorEvC
import Derived.ProofKit
import Derived.LaidMore
import Derived.OpenShut
import Derived.Stop.Joined
import Derived.Lib.SmallJoins
import Derived.Carry
import Derived.Below
import Derived.SevenTiedAt
set_option linter.unusedSimpArgs false
set_option linter.unusedVariables false
set_option linter.unusedSectionVars false
namespace Go.Proofs.YtmdibcklpmeleaaGreatDoor.inodesBack
open Go.ChangeShapes Go.WideShapes Go.ChangeAt Go.WideMaps Go.WideElems Go.RowKit
open Go.Ev (Zur Zq8 Zz3 steps16 isTrue)
theorem own:ownKnob Tryz.prog.godebug=none:=by kernel_rfl
theorem laidOut:laidOutB Tryz.prog=true:=by kernel_rfl
theorem gSteps:Tryz.prog.globalNamed "quern/crc.steps" = some 0:=by kernel_rfl
theorem door_met (os:Os) (args:Array Value):laidMetH Tryz.prog [("quern/crc.steps",Rows.laid_quern_crc_steps)] ((World.doorLaid Tryz.prog 400 os).forCall (fun _ _=>0) ⟨#[],args,[]⟩).memory :=
 laidMetH_of_parts3 (fuel:=8) (laidMet_of_run' 8 (by kernel_rfl) (by kernel_rfl)) (by kernel_rfl) (by kernel_rfl)
set_option maxRecDepth 100000 in
theorem lifted (os:Os) (started:os.Started) (H:Type) (enc:TypeId × Value→H) :
  ReturnsInHanded {} Tryz.checked os 3 .any (fun w args=>(Rows.inodesBackSpec.pre enc Tryz.prog Tryz.f3 [] false w args∧laidMetH Tryz.prog [("quern/crc.steps",Rows.laid_quern_crc_steps)] w)∧sizedMet enc Tryz.prog Tryz.f3 (OpenSpec.ofChange Rows.inodesBackSpec) false w args)
   (Rows.inodesBackSpec.post enc Tryz.prog Tryz.f3 false true false false):=by
 refine returnsInHanded_of_change_and (C:=Tryz.checked) (X:=fun w _=>laidMetH Tryz.prog [("quern/crc.steps",Rows.laid_quern_crc_steps)] w) (fun _ _ _ hh h=>h.of_heap hh) own started (by kernel_rfl) Tryz.func3
  (ChangeSpec.witness_shaped (enc:=enc) (C:=Tryz.checked) (os:=os) (X:=fun w _=>laidMetH Tryz.prog [("quern/crc.steps",Rows.laid_quern_crc_steps)] w) false (World.doorLaid Tryz.prog 400 os) #[.agg #[.int .i64 0,.int .i64 0,.int .i64 0,.int .i64 0,.int .u8 0,.slice none 0 0],.int .i64 0,.int .i64 0,.agg #[.int .u8 0,.int .i64 0,.int .u32 0,.int .i64 0,.int .u32 0,.int .u32 0,.int .u32 0,.int .u32 0,.int .u32 0,.int .u32 0,.int .u32 0,.int .u32 0,.int .u32 0,.int .u32 0,.int .u32 0,.int .u32 0]] 8 rfl (World.shaped_of_RefB (by kernel_rfl) (by kernel_rfl)) (by kernel_rfl) (by kernel_rfl) (by kernel_rfl) (door_met os _)) ?_
 intro W base args ds gs before hval0 hW _ _ hL _
 have hval:∀ (j:Nat) t v,Tryz.f3.params[j]? = some t→args[j]? = some v→Value.okWide Tryz.prog W .any base t v:=hval0
 have hW':=hW
 obtain⟨p,q,hA0,hV,rfl,hfz,hnd⟩:=hW
 have hA:DataW.TrodAll enc Tryz.prog W 0 (fun _=>true) true Tryz.f3.params.toList args.toList ds p:=hA0
 rw[Tryz.params3] at hA hval
 obtain⟨v0,v1,v2,v3,d0,d1,d2,d3,p0,p1,p2,p3,rfl,rfl,hp,h0,h1,h2,h3⟩:=trodAll_four hA
 obtain⟨rfl,rfl⟩:=trodVars_none hV
 have k0:=h0
 have lt0:∀ x∈p0,x.block<W.heap.size:=by obtain⟨m,hm⟩:=k0; exact DataW.trod_lt m _ _ _ hm
 have k1:=h1
 have lt1:∀ x∈p1,x.block<W.heap.size:=by obtain⟨m,hm⟩:=k1; exact DataW.trod_lt m _ _ _ hm
 have k2:=h2
 have lt2:∀ x∈p2,x.block<W.heap.size:=by obtain⟨m,hm⟩:=k2; exact DataW.trod_lt m _ _ _ hm
 have k3:=h3
 have lt3:∀ x∈p3,x.block<W.heap.size:=by obtain⟨m,hm⟩:=k3; exact DataW.trod_lt m _ _ _ hm
 obtain⟨sa,sb,sc,sd,se,sv,rfl,ok0⟩:=Zvm (hval 0 26 v0 rfl rfl) h0 rfl
 obtain⟨z1,rfl,rfl,rfl,wf1⟩:=open_int Tryz.underlying3 (hval 1 3 v1 rfl rfl) h1
 obtain⟨z2,rfl,rfl,rfl,wf2⟩:=open_int Tryz.underlying3 (hval 2 3 v2 rfl rfl) h2
 obtain⟨cs3,rfl,ks3n0⟩:=Go.Ev.Z2j (n:=8) Tryz.underlying30 (show Go.Ev.kinds Tryz.prog 8 30=some [.int .u8,.int .i64,.int .u32,.int .i64,.int .u32,.int .u32,.int .u32,.int .u32,.int .u32,.int .u32,.int .u32,.int .u32,.int .u32,.int .u32,.int .u32,.int .u32] by kernel_rfl) (hval 3 30 v3 rfl rfl) h3
 obtain⟨_,_,rfl,⟨a3x0,rfl,wfa3x0⟩,ks3n1⟩:=Go.Ev.has1 ks3n0
 clear ks3n0
 obtain⟨_,_,rfl,⟨a3x1,rfl,wfa3x1⟩,ks3n2⟩:=Go.Ev.has1 ks3n1
 clear ks3n1
 obtain⟨_,_,rfl,⟨a3x2,rfl,wfa3x2⟩,ks3n3⟩:=Go.Ev.has1 ks3n2
 clear ks3n2
 obtain⟨_,_,rfl,⟨a3x3,rfl,wfa3x3⟩,ks3n4⟩:=Go.Ev.has1 ks3n3
 clear ks3n3
 obtain⟨_,_,rfl,⟨a3x4,rfl,wfa3x4⟩,ks3n5⟩:=Go.Ev.has1 ks3n4
 clear ks3n4
 obtain⟨_,_,rfl,⟨a3x5,rfl,wfa3x5⟩,ks3n6⟩:=Go.Ev.has1 ks3n5
 clear ks3n5
 obtain⟨_,_,rfl,⟨a3x6,rfl,wfa3x6⟩,ks3n7⟩:=Go.Ev.has1 ks3n6
 clear ks3n6
 obtain⟨_,_,rfl,⟨a3x7,rfl,wfa3x7⟩,ks3n8⟩:=Go.Ev.has1 ks3n7
 clear ks3n7
 obtain⟨_,_,rfl,⟨a3x8,rfl,wfa3x8⟩,ks3n9⟩:=Go.Ev.has1 ks3n8
 clear ks3n8
 obtain⟨_,_,rfl,⟨a3x9,rfl,wfa3x9⟩,ks3n10⟩:=Go.Ev.has1 ks3n9
 clear ks3n9
 obtain⟨_,_,rfl,⟨a3x10,rfl,wfa3x10⟩,ks3n11⟩:=Go.Ev.has1 ks3n10
 clear ks3n10
 obtain⟨_,_,rfl,⟨a3x11,rfl,wfa3x11⟩,ks3n12⟩:=Go.Ev.has1 ks3n11
 clear ks3n11
 obtain⟨_,_,rfl,⟨a3x12,rfl,wfa3x12⟩,ks3n13⟩:=Go.Ev.has1 ks3n12
 clear ks3n12
 obtain⟨_,_,rfl,⟨a3x13,rfl,wfa3x13⟩,ks3n14⟩:=Go.Ev.has1 ks3n13
 clear ks3n13
 obtain⟨_,_,rfl,⟨a3x14,rfl,wfa3x14⟩,ks3n15⟩:=Go.Ev.has1 ks3n14
 clear ks3n14
 obtain⟨_,_,rfl,⟨a3x15,rfl,wfa3x15⟩,ks3n16⟩:=Go.Ev.has1 ks3n15
 clear ks3n15
 obtain rfl:=Go.Ev.has0 ks3n16
 obtain⟨cs,t,fr,hb,hcs⟩:=Zz3 gSteps (by kernel_rfl) Tryz.underlying269 Tryz.underlying27 (by kernel_rfl) (by kernel_rfl) hL
 clear hA0 hval0
 have calls:=Z33 Yfp hb hcs sa sb sc sd se z1 z2 ok0 a3x0 a3x1 a3x2 a3x3 a3x4 a3x5 a3x6 a3x7 a3x8 a3x9 a3x10 a3x11 a3x12 a3x13 a3x14 a3x15  wfa3x2 wfa3x4 wfa3x5 wfa3x6 wfa3x7 wfa3x8 wfa3x9 wfa3x10 wfa3x11 wfa3x12 wfa3x13 wfa3x14 wfa3x15
 refine calls.mono fun e W' ⟨he,bel⟩=>?_
 subst he
 exact⟨_,rfl,_,_,_,[],_,[],hW',trodAll_mk1 (shut_bool Tryz.underlying4 _),trodAll_cons_mk (Below.trod laidOut (by kernel_rfl) (of_decide_eq_true (by kernel_rfl)) k0 bel lt0) (trodAll_cons_mk (Below.trod laidOut (by kernel_rfl) (of_decide_eq_true (by kernel_rfl)) k1 bel lt1) (trodAll_cons_mk (Below.trod laidOut (by kernel_rfl) (of_decide_eq_true (by kernel_rfl)) k2 bel lt2) (trodAll_cons_mk (Below.trod laidOut (by kernel_rfl) (of_decide_eq_true (by kernel_rfl)) k3 bel lt3) trodAll_mk0))),rfl,bel.frame _,fun h=>by cases h⟩
theorem Yhs {a b:Bool} (h:a=true) (k:b=true):(a&&b)=true:=by rw[h,k]; rfl
set_option maxHeartbeats 40000000 in
theorem facts:joinedFacts Tryz.pinned.checked.prog 3 Tryz.f3 Rows.inodesBackSpec Rows.inodesBackRow=true:=by
 unfold joinedFacts
 repeat' with_reducible apply Yhs
 all_goals (as_aux_lemma=>kernel_rfl)
theorem said:Rows.InodesBackSaid :=
 OpenClaim.holds_of_wide 3 Tryz.f3 rfl rfl rfl rfl rfl rfl rfl ⟨rfl,rfl,rfl,rfl,rfl⟩ rfl rfl rfl rfl rfl (by as_aux_lemma=>kernel_rfl) Tryz.func3 facts
  (of_decide_eq_true (by kernel_rfl)) (by unfold Func.isWrapper; first|(rw[if_pos (by decide +kernel)]; kernel_rfl)|(rw[if_neg (by decide +kernel)]; exact⟨rfl,rfl⟩))
  (fun os started H enc _=>lifted os started H enc)
theorem proved:Rows.InodesBackCardSaid :=
 Claim7.holds_tied_plain_at .later [] [.data] true (true, "d8eef8a0f5bf1e65a2868316b97867853ef39155b19321018e16fe20bd8a969a") true
  said (fun _ h=>by cases h) (by as_aux_lemma=>kernel_rfl) (fun _ h=>by cases h) inodesBack_row_tie rfl ⟨rfl,rfl⟩ (by as_aux_lemma=>kernel_rfl) rfl
  (fun f fn hf hfn=>by
   obtain rfl:f=3:=Option.some.inj ((show Tryz.prog.funcNamed "quern/quernlaw24.InodesBack" = some 3 by as_aux_lemma=>kernel_rfl).symm.trans hf) |>.symm
   obtain rfl:fn=Tryz.f3:=(Option.some.inj (Tryz.func3.symm.trans hfn)).symm
   exact⟨by as_aux_lemma=>kernel_rfl,fun j t ht=>by
    rw[Tryz.params3] at ht
    have h3:t=26∨t=3∨t=30:=by
     rcases j with _|j
     ·simp at ht; simp [ht]
     ·rcases j with _|j
      ·simp at ht; simp [ht]
      ·rcases j with _|j
       ·simp at ht; simp [ht]
       ·rcases j with _|j
        ·simp at ht; simp [ht]
        ·simp at ht
    rcases h3 with rfl|rfl|rfl
    ·exact (show Tryz.prog.wantsStandIn 26=false by kernel_rfl)
    ·exact (show Tryz.prog.wantsStandIn 3=false by kernel_rfl)
    ·exact (show Tryz.prog.wantsStandIn 30=false by kernel_rfl)⟩)
  (by as_aux_lemma=>kernel_rfl)
#print axioms proved
end Go.Proofs.YtmdibcklpmeleaaGreatDoor.inodesBack
