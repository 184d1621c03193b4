/- disk.Load, slices.Clone of blocks. -/
import Derived.Test.YtlbbmhgdcdcdnaaGreatDoorNew
set_option linter.unusedSimpArgs false
set_option linter.unusedVariables false
set_option linter.unusedSectionVars false
set_option maxRecDepth 100000
set_option maxHeartbeats 4000000
namespace Go.Proofs.YtlbbmhgdcdcdnaaGreatDoor
open Go.Ev
theorem rs57:Tryz.f57.results.toList=[.tmp 2]:=rfl
theorem rs17:Tryz.f17.results.toList=[.tmp 2,.tmp 3]:=rfl
attribute [go_sem] rs57 rs17
def imB (L:List (List C)):Bool:=L.all fun x=>Nat.beq x.length 256&&x.all C.flat
theorem imB_mem {L:List (List C)} (h:imB L=true) {x:List C} (hx:x∈L):x.length=256∧x.all C.flat=true:=by
 have:=List.all_eq_true.1 h x hx
 rw[Bool.and_eq_true] at this
 exact⟨Nat.eq_of_beq_eq_true this.1,this.2⟩
theorem imB_flat {L:List (List C)} (h:imB L=true):L.all (fun l=>l.all C.flat)=true:=List.all_eq_true.2 fun x hx=>(imB_mem h hx).2
theorem imB_set {L:List (List C)} (h:imB L=true) {x:List C} (xl:x.length=256) (xf:x.all C.flat=true) (i:Nat):imB (L.set i x)=true:=List.all_eq_true.2 fun y hy=>by
 rcases List.mem_or_eq_of_mem_set hy with h1|rfl
 ·exact List.all_eq_true.1 h y h1
 ·rw[xl,xf]; rfl
theorem imB_rep (n:Nat):imB (List.replicate n zB)=true:=List.all_eq_true.2 fun y hy=>by
 obtain rfl:=(List.mem_replicate.1 hy).2
 kernel_rfl
noncomputable def xCloneBl:Kn1:=fun args h=>match args with
 | [.c (.slice n 0 len z)]=>match h.get n with
  | some (.row s L _)=>askB (Nat.beq s 256&&Nat.beq z 256&&Nat.beq L.length len&&Nat.ble 1 len&&Nat.ble len 2048&&imB L) (some (.w (.c (.slice h.next 0 len 256)),h.new (.row 256 L false)))
  | _=>none
 | _=>none
noncomputable def xDLoad:Kn1:=fun args h=>match args with
 | [.c (.slice n 0 len z)]=>match h.get n with
  | some (.row s L _)=>askB (Nat.beq s 256&&Nat.beq z 256&&Nat.beq L.length len&&Nat.ble 1 len&&Nat.ble len 2048&&imB L) (some (.tup [.c (.ptr (h.next+1+1) 0),.c (.int .i64 0)],((h.new (.row 256 L false)).new (.row 256 L false)).new (.row 6 [dkL ⟨h.next,h.next+1,len,.snil,0,0⟩] false)))
  | _=>none
 | _=>none
attribute [go_sem] xCloneBl xDLoad
section
variable (Hh:Hearts K Tryz.prog)
include Hh
theorem xCloneBl_ok {args:List W} {h h':Go.Ev.H} {v:V} (e:xCloneBl args h=some (v,h')):CallOk K Tryz.prog 57 args h v h':=by
 unfold xCloneBl at e
 split at e
 ·rename_i n len z
  split at e
  ·rename_i s L ro heq
   obtain⟨q,e⟩:=askB_some.1 e
   cases e
   simp only[Bool.and_eq_true] at q
   obtain⟨⟨⟨⟨⟨q1,q2⟩,q3⟩,q4⟩,q5⟩,q6⟩:=q
   obtain rfl:=Nat.eq_of_beq_eq_true q1
   obtain rfl:=Nat.eq_of_beq_eq_true q2
   have q3:=Nat.eq_of_beq_eq_true q3
   have q4:=Nat.le_of_ble_eq_true q4
   have q5:=Nat.le_of_ble_eq_true q5
   have rm:readMany 256 L 0 256 len=some L:=by rw[←q3]; exact readMany_all 256 L
   refine CallOk.tidy ⟨Tryz.f57,Tryz.func57,by kernel_rfl,by decide⟩ fun tidy=>?_
   have l1:=tidy _ _ heq
   obtain⟨v,h',cc,n',rfl,n1,n2,n3,hk⟩:∃ v h',CallOk K Tryz.prog 57 [.c (.slice n 0 len 256)] h v h'∧∃ n',v=.w (.c (.slice n' 0 len 256))∧h.next≤n'∧n'<h'.next∧h'.get n'=some (.row 256 L false)∧∀ m,m<h.next→h'.get m=h.get m:=by
    rcases L with _|⟨x0,L⟩
    ·simp only[List.length_nil] at q3; omega
    ·
     refine CallOk.goesE fits Hh (by kernel_rfl) (by kernel_rfl) (by kernel_rfl) (show Tryz.f57.body=some _ from rfl) rfl ?_
     repeat (first
      | refine Goes.seq ?_
      | refine Goes.block ?_
      | refine Goes.loop ?_
      | refine Goes.skip ?_
      | refine Goes.exit ?_
      | refine Goes.ret ?_
      | refine Goes.condV (by simp (maxSteps:=9^6) +decide (disch:=first|omega|(simp only[lens]<;>omega)|decide) only [go_sem,readRow,loadIn,simprocAttr,heq,rm,q3,List.length_append,Nat.zero_add,opBuiltin,opAppend,srcFits,sliceEls,rowEls,appendTo,poison,isSl,opBuildSlice,fillEls,newSlice,List.replicate_succ,List.replicate_zero,Nat.zero_mul]<;>rfl) ?_
      | refine Goes.ops2 fits Hh E0_sound (by simp (maxSteps:=9^6) +decide (disch:=first|omega|(simp only[lens]<;>omega)|decide) only [go_sem,readRow,loadIn,simprocAttr,heq,rm,q3,List.length_append,Nat.zero_add,opBuiltin,opAppend,srcFits,sliceEls,rowEls,appendTo,poison,isSl,opBuildSlice,fillEls,newSlice,List.replicate_succ,List.replicate_zero,Nat.zero_mul]; rfl) ?_)
     exact⟨_,_,(by simp (maxSteps:=9^6) +decide (disch:=first|omega|(simp only[lens]<;>omega)|decide) only [go_sem,readRow,loadIn,simprocAttr]<;>rfl),_,rfl,(by first|omega|(simp only[H.next_new,H.next_del]<;>omega)),(by first|omega|(simp only[H.next_new,H.next_del]<;>omega)),(by rw[get_new_eq (by rw[H.next_del,H.next_new]; omega)]),fun m hm=>by (first|(simp (discharger:=omega) only [H.get_put,H.get_new,H.get_del,H.next_new,H.next_put,H.next_del,if_neg]; done)|(simp only[H.get_put,H.get_new,H.get_del,H.next_new,H.next_put,H.next_del]; (repeat' split)<;>first|rfl|(exfalso; omega)|omega))⟩
   exact CallOk.row1 cc n1 n3 (imB_flat q6) n2 hk
  ·cases e
 ·cases e
theorem xDLoad_ok {args:List W} {h h':Go.Ev.H} {v:V} (e:xDLoad args h=some (v,h')):CallOk K Tryz.prog 17 args h v h':=by
 unfold xDLoad at e
 split at e
 ·rename_i n len z
  split at e
  ·rename_i s L ro heq
   obtain⟨q,e⟩:=askB_some.1 e
   cases e
   simp only[Bool.and_eq_true] at q
   obtain⟨⟨⟨⟨⟨q1,q2⟩,q3⟩,q4⟩,q5⟩,q6⟩:=q
   obtain rfl:=Nat.eq_of_beq_eq_true q1
   obtain rfl:=Nat.eq_of_beq_eq_true q2
   have q3:=Nat.eq_of_beq_eq_true q3
   have q4:=Nat.le_of_ble_eq_true q4
   have q5:=Nat.le_of_ble_eq_true q5
   refine CallOk.tidy ⟨Tryz.f17,Tryz.func17,by kernel_rfl,by decide⟩ fun tidy=>?_
   have l1:=tidy _ _ heq
   refine CallOk.goes fits Hh (by kernel_rfl) (by kernel_rfl) (by kernel_rfl) (show Tryz.f17.body=some _ from rfl) rfl ?_
   repeat (first
    | refine Goes.seq ?_
    | refine Goes.block ?_
    | refine Goes.loop ?_
    | refine Goes.skip ?_
    | refine Goes.exit ?_
    | refine Goes.ret ?_
    | refine Goes.condV (by simp (maxSteps:=9^6) +decide (disch:=first|omega|(simp only[lens]<;>omega)|decide) only [go_sem,readRow,loadIn,simprocAttr,heq,q3,q6,opBuiltin,opLen,opBox]<;>rfl) ?_
    | refine Goes.ops2 fits Hh (EX_sound (EX_sound E0_sound (fun _ _ _ _=>xDMay_ok Hh)) (fun _ _ _ _=>xCloneBl_ok Hh)) (by simp (maxSteps:=9^6) +decide (disch:=first|omega|(simp only[lens]<;>omega)|decide) only [go_sem,readRow,loadIn,simprocAttr,heq,q3,q6,opBuiltin,opLen,opBox]; rfl) ?_)
   simp (maxSteps:=9^6) +decide (disch:=first|omega|(simp only[lens]<;>omega)|decide) only [go_sem,readRow,loadIn,simprocAttr]<;>rfl
  ·cases e
 ·cases e
end
end Go.Proofs.YtlbbmhgdcdcdnaaGreatDoor
