/- InodesUndone, whatever it is given: true, and what it is given reads as it did; the table of crc starts as the program's text lays it. -/
import Derived.Test.YtngejdlimkgjfaaGreatDoorRows
import Derived.Test.YtngejdlimkgjfaaGreatDoorCards
import Derived.Test.YtngejdlimkgjfaaGreatDoorTie
import Derived.Test.YtngejdlimkgjfaaGreatDoorFits
import Derived.Test.YtngejdlimkgjfaaGreatDoorHeart
import Derived.Test.YtngejdlimkgjfaaGreatDoorAru
import Derived.Test.YtngejdlimkgjfaaGreatDoorEvC
import Derived.ProofKit
import Derived.LaidMore
import Derived.OpenShut
import Derived.Stop.Joined
import Derived.Lib.SmallJoins
import Derived.Carry
import Derived.Below
import Derived.SevenTiedAt
set_option linter.unusedSimpArgs false
set_option linter.unusedVariables false
set_option linter.unusedSectionVars false
namespace Go.Proofs.YtngejdlimkgjfaaGreatDoor.inodesUndone
open Go.ChangeShapes Go.WideShapes Go.ChangeAt Go.WideMaps Go.WideElems Go.RowKit
open Go.Ev (Zol Zmi Ztf steps16 isTrue)
theorem own:ownKnob Tryz.prog.godebug=none:=by kernel_rfl
theorem laidOut:laidOutB Tryz.prog=true:=by kernel_rfl
theorem gSteps:Tryz.prog.globalNamed "quern/crc.steps" = some 0:=by kernel_rfl
theorem door_met (os:Os) (args:Array Value):laidMetH Tryz.prog [("quern/crc.steps",Rows.laid_quern_crc_steps)] ((World.doorLaid Tryz.prog 400 os).forCall (fun _ _=>0) ⟨#[],args,[]⟩).memory :=
 laidMetH_of_parts3 (fuel:=8) (laidMet_of_run' 8 (by kernel_rfl) (by kernel_rfl)) (by kernel_rfl) (by kernel_rfl)
set_option maxRecDepth 100000 in
theorem lifted (os:Os) (started:os.Started) (H:Type) (enc:TypeId × Value→H) :
  ReturnsInHanded {} Tryz.checked os 3 .any (fun w args=>(Rows.inodesUndoneSpec.pre enc Tryz.prog Tryz.f3 [] false w args∧laidMetH Tryz.prog [("quern/crc.steps",Rows.laid_quern_crc_steps)] w)∧sizedMet enc Tryz.prog Tryz.f3 (OpenSpec.ofChange Rows.inodesUndoneSpec) false w args)
   (Rows.inodesUndoneSpec.post enc Tryz.prog Tryz.f3 false true false false):=by
 refine returnsInHanded_of_change_and (C:=Tryz.checked) (X:=fun w _=>laidMetH Tryz.prog [("quern/crc.steps",Rows.laid_quern_crc_steps)] w) (fun _ _ _ hh h=>h.of_heap hh) own started (by kernel_rfl) Tryz.func3
  (ChangeSpec.witness_shaped (enc:=enc) (C:=Tryz.checked) (os:=os) (X:=fun w _=>laidMetH Tryz.prog [("quern/crc.steps",Rows.laid_quern_crc_steps)] w) false (World.doorLaid Tryz.prog 400 os) #[.agg #[.int .i64 0,.int .i64 0,.int .i64 0,.int .i64 0,.int .u8 0,.slice none 0 0],.int .i64 0,.agg #[.int .u8 0,.int .i64 0,.int .u32 0,.int .i64 0,.int .u32 0,.int .u32 0,.int .u32 0,.int .u32 0,.int .u32 0,.int .u32 0,.int .u32 0,.int .u32 0,.int .u32 0,.int .u32 0,.int .u32 0,.int .u32 0]] 8 rfl (World.shaped_of_RefB (by kernel_rfl) (by kernel_rfl)) (by kernel_rfl) (by kernel_rfl) (by kernel_rfl) (door_met os _)) ?_
 intro W base args ds gs before hval0 hW _ _ hL _
 have hval:∀ (j:Nat) t v,Tryz.f3.params[j]? = some t→args[j]? = some v→Value.okWide Tryz.prog W .any base t v:=hval0
 have hW':=hW
 obtain⟨p,q,hA0,hV,rfl,hfz,hnd⟩:=hW
 have hA:DataW.TrodAll enc Tryz.prog W 0 (fun _=>true) true Tryz.f3.params.toList args.toList ds p:=hA0
 rw[Tryz.params3] at hA hval
 obtain⟨v0,v1,v2,d0,d1,d2,p0,p1,p2,rfl,rfl,hp,h0,h1,h2⟩:=trodAll_three hA
 obtain⟨rfl,rfl⟩:=trodVars_none hV
 have k0:=h0
 have lt0:∀ x∈p0,x.block<W.heap.size:=by obtain⟨m,hm⟩:=k0; exact DataW.trod_lt m _ _ _ hm
 have k1:=h1
 have lt1:∀ x∈p1,x.block<W.heap.size:=by obtain⟨m,hm⟩:=k1; exact DataW.trod_lt m _ _ _ hm
 have k2:=h2
 have lt2:∀ x∈p2,x.block<W.heap.size:=by obtain⟨m,hm⟩:=k2; exact DataW.trod_lt m _ _ _ hm
 obtain⟨sa,sb,sc,sd,se,sv,rfl,ok0⟩:=Zpe (hval 0 26 v0 rfl rfl) h0 rfl
 obtain⟨z1,rfl,rfl,rfl,wf1⟩:=open_int Tryz.underlying3 (hval 1 3 v1 rfl rfl) h1
 obtain⟨cs2,rfl,ks2n0⟩:=Go.Ev.Zt3 (n:=8) Tryz.underlying30 (show Go.Ev.kinds Tryz.prog 8 30=some [.int .u8,.int .i64,.int .u32,.int .i64,.int .u32,.int .u32,.int .u32,.int .u32,.int .u32,.int .u32,.int .u32,.int .u32,.int .u32,.int .u32,.int .u32,.int .u32] by kernel_rfl) (hval 2 30 v2 rfl rfl) h2
 obtain⟨_,_,rfl,⟨a2x0,rfl,wfa2x0⟩,ks2n1⟩:=Go.Ev.has1 ks2n0
 clear ks2n0
 obtain⟨_,_,rfl,⟨a2x1,rfl,wfa2x1⟩,ks2n2⟩:=Go.Ev.has1 ks2n1
 clear ks2n1
 obtain⟨_,_,rfl,⟨a2x2,rfl,wfa2x2⟩,ks2n3⟩:=Go.Ev.has1 ks2n2
 clear ks2n2
 obtain⟨_,_,rfl,⟨a2x3,rfl,wfa2x3⟩,ks2n4⟩:=Go.Ev.has1 ks2n3
 clear ks2n3
 obtain⟨_,_,rfl,⟨a2x4,rfl,wfa2x4⟩,ks2n5⟩:=Go.Ev.has1 ks2n4
 clear ks2n4
 obtain⟨_,_,rfl,⟨a2x5,rfl,wfa2x5⟩,ks2n6⟩:=Go.Ev.has1 ks2n5
 clear ks2n5
 obtain⟨_,_,rfl,⟨a2x6,rfl,wfa2x6⟩,ks2n7⟩:=Go.Ev.has1 ks2n6
 clear ks2n6
 obtain⟨_,_,rfl,⟨a2x7,rfl,wfa2x7⟩,ks2n8⟩:=Go.Ev.has1 ks2n7
 clear ks2n7
 obtain⟨_,_,rfl,⟨a2x8,rfl,wfa2x8⟩,ks2n9⟩:=Go.Ev.has1 ks2n8
 clear ks2n8
 obtain⟨_,_,rfl,⟨a2x9,rfl,wfa2x9⟩,ks2n10⟩:=Go.Ev.has1 ks2n9
 clear ks2n9
 obtain⟨_,_,rfl,⟨a2x10,rfl,wfa2x10⟩,ks2n11⟩:=Go.Ev.has1 ks2n10
 clear ks2n10
 obtain⟨_,_,rfl,⟨a2x11,rfl,wfa2x11⟩,ks2n12⟩:=Go.Ev.has1 ks2n11
 clear ks2n11
 obtain⟨_,_,rfl,⟨a2x12,rfl,wfa2x12⟩,ks2n13⟩:=Go.Ev.has1 ks2n12
 clear ks2n12
 obtain⟨_,_,rfl,⟨a2x13,rfl,wfa2x13⟩,ks2n14⟩:=Go.Ev.has1 ks2n13
 clear ks2n13
 obtain⟨_,_,rfl,⟨a2x14,rfl,wfa2x14⟩,ks2n15⟩:=Go.Ev.has1 ks2n14
 clear ks2n14
 obtain⟨_,_,rfl,⟨a2x15,rfl,wfa2x15⟩,ks2n16⟩:=Go.Ev.has1 ks2n15
 clear ks2n15
 obtain rfl:=Go.Ev.has0 ks2n16
 obtain⟨cs,t,fr,hb,hcs⟩:=Ztf gSteps (by kernel_rfl) Tryz.underlying270 Tryz.underlying27 (by kernel_rfl) (by kernel_rfl) hL
 clear hA0 hval0
 have calls:=Zul Z2q hb hcs sa sb sc sd se z1 ok0 a2x0 a2x1 a2x2 a2x3 a2x4 a2x5 a2x6 a2x7 a2x8 a2x9 a2x10 a2x11 a2x12 a2x13 a2x14 a2x15 wfa2x2 wfa2x4 wfa2x5 wfa2x6 wfa2x7 wfa2x8 wfa2x9 wfa2x10 wfa2x11 wfa2x12 wfa2x13 wfa2x14 wfa2x15
 refine calls.mono fun e W' ⟨he,bel⟩=>?_
 subst he
 exact⟨_,rfl,_,_,_,[],_,[],hW',trodAll_mk1 (shut_bool Tryz.underlying4 _),trodAll_cons_mk (Below.trod laidOut (by kernel_rfl) (of_decide_eq_true (by kernel_rfl)) k0 bel lt0) (trodAll_cons_mk (Below.trod laidOut (by kernel_rfl) (of_decide_eq_true (by kernel_rfl)) k1 bel lt1) (trodAll_cons_mk (Below.trod laidOut (by kernel_rfl) (of_decide_eq_true (by kernel_rfl)) k2 bel lt2) trodAll_mk0)),rfl,bel.frame _,fun h=>by cases h⟩
theorem Z4m {a b:Bool} (h:a=true) (k:b=true):(a&&b)=true:=by rw[h,k]; rfl
set_option maxHeartbeats 40000000 in
theorem facts:joinedFacts Tryz.pinned.checked.prog 3 Tryz.f3 Rows.inodesUndoneSpec Rows.inodesUndoneRow=true:=by
 unfold joinedFacts
 repeat' with_reducible apply Z4m
 all_goals (as_aux_lemma=>kernel_rfl)
theorem said:Rows.InodesUndoneSaid :=
 OpenClaim.holds_of_wide 3 Tryz.f3 rfl rfl rfl rfl rfl rfl rfl ⟨rfl,rfl,rfl,rfl,rfl⟩ rfl rfl rfl rfl rfl (by as_aux_lemma=>kernel_rfl) Tryz.func3 facts
  (of_decide_eq_true (by kernel_rfl)) (by unfold Func.isWrapper; first|(rw[if_pos (by decide +kernel)]; kernel_rfl)|(rw[if_neg (by decide +kernel)]; exact⟨rfl,rfl⟩))
  (fun os started H enc _=>lifted os started H enc)
theorem proved:Rows.InodesUndoneCardSaid :=
 Claim7.holds_tied_plain_at .later [] [.data] true (true, "71be1f3ae7ee7f08c23ed01ec17eaddb5d39eeb8943b8139df5555e266e12d70") true
  said (fun _ h=>by cases h) (by as_aux_lemma=>kernel_rfl) (fun _ h=>by cases h) inodesUndone_row_tie rfl ⟨rfl,rfl⟩ (by as_aux_lemma=>kernel_rfl) rfl
  (fun f fn hf hfn=>by
   obtain rfl:f=3:=Option.some.inj ((show Tryz.prog.funcNamed "quern/quernlaw24.InodesUndone" = some 3 by as_aux_lemma=>kernel_rfl).symm.trans hf) |>.symm
   obtain rfl:fn=Tryz.f3:=(Option.some.inj (Tryz.func3.symm.trans hfn)).symm
   exact⟨by as_aux_lemma=>kernel_rfl,fun j t ht=>by
    rw[Tryz.params3] at ht
    have h3:t=26∨t=3∨t=30:=by
     rcases j with _|j
     ·simp at ht; simp [ht]
     ·rcases j with _|j
      ·simp at ht; simp [ht]
      ·rcases j with _|j
       ·simp at ht; simp [ht]
       ·simp at ht
    rcases h3 with rfl|rfl|rfl
    ·exact (show Tryz.prog.wantsStandIn 26=false by kernel_rfl)
    ·exact (show Tryz.prog.wantsStandIn 3=false by kernel_rfl)
    ·exact (show Tryz.prog.wantsStandIn 30=false by kernel_rfl)⟩)
  (by as_aux_lemma=>kernel_rfl)
#print axioms proved
end Go.Proofs.YtngejdlimkgjfaaGreatDoor.inodesUndone
