/- paths.Of: the ways to the first blocks of a file, by the kernel. -/
import Derived.Test.YteiljiijagmonaaGreatDoorBeg
set_option maxRecDepth 100000
set_option maxHeartbeats 4000000
set_option linter.unusedSimpArgs false
set_option linter.unusedVariables false
set_option linter.unusedSectionVars false
namespace Go.Proofs.YteiljiijagmonaaGreatDoor
open Go.Ev
def Uw (i:Nat):Nat × Lq:=if i<8 then (i,[]) else if i<72 then (8,[i - 8]) else (9,[(i - 72) / 64,(i - 72) % 64])
def okI:Lq->List (List C)->Bool
 | [],r=>r.isEmpty
 | x :: l,r=>match r with
  | [.int .i64 a] :: r'=>decide (a=(x:Int))&&okI l r'
  | _=>false
theorem Zrv:∀ {l:Lq} {r:List (List C)},okI l r=true->r=rwI l
 | [],r,h=>List.isEmpty_iff.1 h
 | x :: l,r,h=>by
  unfold okI at h
  split at h
  ·rename_i a r'
   rw[aQ] at h
   rw[Zrv h.2,show a=(x:Int) from of_decide_eq_true h.1]
   rfl
  ·cases h
noncomputable def ofC (i:Nat):Bool:=match Zsa (evX K x00 5000 (.call 18 [.c (.int .i64 (i:Int))] ⟨.nil,1⟩)) with
 | some (p,r)=>decide (p=((Uw i).1:Nat))&&okI (Uw i).2 r
 | none=>false
theorem Ya1:(List.range 22).all (fun k=>ofC k)=true:=kR
theorem Ya2:(List.range 22).all (fun k=>ofC (22+k))=true:=kR
theorem Ya3:(List.range 22).all (fun k=>ofC (44+k))=true:=kR
theorem Ya4:(List.range 22).all (fun k=>ofC (66+k))=true:=kR
theorem Ya5:(List.range 22).all (fun k=>ofC (88+k))=true:=kR
theorem Z9u (i:Nat) (h:i<110):Zsa (evX K x00 5000 (.call 18 [.c (.int .i64 (i:Int))] ⟨.nil,1⟩))=some ((((Uw i).1:Nat):Int),rwI (Uw i).2):=by
 have c:ofC i=true:=by
  rcases Nat.lt_or_ge i 22 with w|w
  ·exact List.all_eq_true.1 Ya1 i (List.mem_range.2 w)
  rcases Nat.lt_or_ge i 44 with w2|w2
  ·have:=List.all_eq_true.1 Ya2 (i - 22) (List.mem_range.2 oM); rwa [show 22+(i - 22)=i by omega] at this
  rcases Nat.lt_or_ge i 66 with w3|w3
  ·have:=List.all_eq_true.1 Ya3 (i - 44) (List.mem_range.2 oM); rwa [show 44+(i - 44)=i by omega] at this
  rcases Nat.lt_or_ge i 88 with w4|w4
  ·have:=List.all_eq_true.1 Ya4 (i - 66) (List.mem_range.2 oM); rwa [show 66+(i - 66)=i by omega] at this
  ·have:=List.all_eq_true.1 Ya5 (i - 88) (List.mem_range.2 oM); rwa [show 88+(i - 88)=i by omega] at this
 unfold ofC at c
 split at c
 ·rename_i p r e
  rw[aQ] at c
  rw[e,Zrv c.2,show p=(((Uw i).1:Nat):Int) from of_decide_eq_true c.1]
 ·cases c
theorem Zsg {i:Nat} (h:i<110):(Uw i).1<11/\∀ w∈(Uw i).2,w<64:=by
 unfold Uw
 split
 ·exact⟨by show i<11; omega,fun w hw=>by simp at hw⟩
 ·split
  ·exact⟨by show 8<11; omega,fun w hw=>by simp at hw; omega⟩
  ·exact⟨by show 9<11; omega,fun w hw=>by simp at hw; omega⟩
section
variable (Hh:Hearts K Tryz.prog)
include Hh
theorem Z7n {i:Nat} (hi:i<110) {h:Hq} (h0:0<h.next):∃ h' s,Zi 18 [.c (.int .i64 (i:Int))] h (.tup [.c (.int .i64 ((Uw i).1:Nat)),.c s,.c (.int .i64 0)]) h'/\h.next<=h'.next/\(∀ m,m<h.next->h'.get m=h.get m)/\SlI h' s (Uw i).2/\∀ p o n z,s=.slice p o n z->h.next<=p/\p<h'.next:=by
 obtain⟨h',s,c,n,k,r⟩:=Zy.Zt8 fits Hh Q9 gl (Z9u i hi) rfl h h0
 refine⟨h',s,c,n,k,?_,fun p o l z e=>?_⟩
 ·rcases r with ⟨e,rfl⟩|⟨q,q1,q2,rfl,ho,el⟩
  ·left
   refine⟨?_,rfl⟩
   have:=congrArg List.length e
   rw[Sb] at this
   exact List.eq_nil_of_length_eq_zero this
  ·rw[Sb] at el ⊢
   exact .inr ⟨q,el,rfl,ho⟩
 ·rcases r with ⟨_,rfl⟩|⟨q,q1,q2,rfl,ho,el⟩
  ·cases e
  ·cases e; exact⟨q1,q2⟩
end
end Go.Proofs.YteiljiijagmonaaGreatDoor
