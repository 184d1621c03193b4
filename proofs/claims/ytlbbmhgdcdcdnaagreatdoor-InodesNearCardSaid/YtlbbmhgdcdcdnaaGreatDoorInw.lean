/- Calls of inode and jblock whose arguments are known: the kernel runs them. -/
import Derived.Test.YtlbbmhgdcdcdnaaGreatDoorX24
import Derived.Test.YtlbbmhgdcdcdnaaGreatDoorSto
import Derived.Test.YtlbbmhgdcdcdnaaGreatDoorEvC
import Derived.KernelRfl
set_option linter.unusedSimpArgs false
set_option linter.unusedVariables false
set_option linter.unusedSectionVars false
set_option maxRecDepth 100000
namespace Go.Proofs.YtlbbmhgdcdcdnaaGreatDoor
open Go.Ev
def byt8 (l:List Nat):List C:=l.map fun (n:Nat)=>.int .u8 (n:Int)
def rootB:List C:=byt8 [2,0,1,0,1,0,0,0]++List.replicate 248 (.int .u8 0)
def twoB:List C:=byt8 [2,0,1,0,1,0,0,0]++List.replicate 56 (.int .u8 0)++byt8 [2,0,1,0,1,0,0,0]++List.replicate 184 (.int .u8 0)
def inoL (k l g s p0 p1 p2 p3 p4 p5 p6 p7 p8 p9 p10 nx:Int):List C:=[.int .u8 k,.int .i64 l,.int .u32 g,.int .i64 s,.int .u32 p0,.int .u32 p1,.int .u32 p2,.int .u32 p3,.int .u32 p4,.int .u32 p5,.int .u32 p6,.int .u32 p7,.int .u32 p8,.int .u32 p9,.int .u32 p10,.int .u32 nx]
def isT:Option Bool→Bool
 | some b=>b
 | none=>false
theorem isT_true {o:Option Bool} (h:isT o=true):o=some true:=by
 cases o with
 | none=>cases h
 | some b=>cases b with
  | false=>cases h
  | true=>rfl
noncomputable def headB:List C:=match resV (evX K x3 3000 (.call 52 [.g [.int .u32 1,.int .i64 0]] ⟨.nil,1⟩)) with
 | some (.tup [.g x,_])=>x
 | _=>[]
noncomputable def xWrHead:Kn1:=fun args h=>match args with
 | [.g [.int .u32 s,.int .i64 z]]=>askB (decide (s=1)&&decide (z=0)) (some (.tup [.g headB,.c (.int .i64 0)],h))
 | _=>none
noncomputable def xInGet:Kn1:=fun args h=>match args with
 | [.g x,.c (.int .i64 a)]=>bif isT (eqInts x zB)&&decide (a=0) then some (.tup [.g (inoL 0 0 0 0 0 0 0 0 0 0 0 0 0 0 0 0),.c (.int .i64 0)],h) else bif isT (eqInts x rootB)&&decide (a=64) then some (.tup [.g (inoL 0 0 0 0 0 0 0 0 0 0 0 0 0 0 0 0),.c (.int .i64 0)],h) else none
 | _=>none
noncomputable def xInPut:Kn1:=fun args h=>match args with
 | [.c (.ptr p 0),.c (.int .i64 a),.g [.int .u8 k,.int .i64 l,.int .u32 g,.int .i64 s,.int .u32 p0,.int .u32 p1,.int .u32 p2,.int .u32 p3,.int .u32 p4,.int .u32 p5,.int .u32 p6,.int .u32 p7,.int .u32 p8,.int .u32 p9,.int .u32 p10,.int .u32 nx]]=>askB (decide (k=2)&&decide (l=1)&&decide (g=1)&&decide (s=0)&&decide (p0=0)&&decide (p1=0)&&decide (p2=0)&&decide (p3=0)&&decide (p4=0)&&decide (p5=0)&&decide (p6=0)&&decide (p7=0)&&decide (p8=0)&&decide (p9=0)&&decide (p10=0)&&decide (nx=0)) (match h.get p with
  | some (.row s [x] ro)=>askB (Nat.beq s 256&&!ro) (bif isT (eqInts x zB)&&decide (a=0) then some (.w (.c (.int .i64 0)),h.put p (.row 256 [rootB] false)) else bif isT (eqInts x rootB)&&decide (a=64) then some (.w (.c (.int .i64 0)),h.put p (.row 256 [twoB] false)) else none)
  | _=>none)
 | _=>none
theorem eqZZ:eqInts zB zB=some true:=by kernel_rfl
theorem eqRR:eqInts rootB rootB=some true:=by kernel_rfl
theorem eqRZ:eqInts rootB zB=some false:=by kernel_rfl
theorem isT_t:isT (some true)=true:=rfl
theorem isT_f:isT (some false)=false:=rfl
theorem headB_len:headB.length=256:=by kernel_rfl
theorem headB_flat:headB.all C.flat=true:=by kernel_rfl
theorem rootB_len:rootB.length=256:=by kernel_rfl
theorem rootB_flat:rootB.all C.flat=true:=by kernel_rfl
theorem twoB_len:twoB.length=256:=by kernel_rfl
theorem twoB_flat:twoB.all C.flat=true:=by kernel_rfl
attribute [go_sem] xWrHead xInGet xInPut eqZZ eqRR eqRZ isT_t isT_f
section
variable (Hh:Hearts K Tryz.prog)
include Hh
theorem xWrHead_ok {args:List W} {h h':Go.Ev.H} {v:V} (e:xWrHead args h=some (v,h')):CallOk K Tryz.prog 52 args h v h':=by
 unfold xWrHead at e
 split at e
 ·obtain⟨b,e⟩:=askB_some.1 e
  cases e
  simp only[Bool.and_eq_true,decide_eq_true_eq] at b
  obtain⟨rfl,rfl⟩:=b
  exact CallOk.closed fits Hh (x3_ok Hh) gl (n:=3000) (by kernel_rfl) rfl (by kernel_rfl) h
 ·cases e
theorem xInGet_ok {args:List W} {h h':Go.Ev.H} {v:V} (e:xInGet args h=some (v,h')):CallOk K Tryz.prog 41 args h v h':=by
 unfold xInGet at e
 split at e
 ·rename_i x a
  cases b1:(isT (eqInts x zB)&&decide (a=0)) with
  | true =>
   rw[b1] at e
   cases e
   rw[Bool.and_eq_true] at b1
   obtain rfl:=eqInts_eq (isT_true b1.1)
   obtain rfl:=of_decide_eq_true b1.2
   exact CallOk.closed fits Hh (x3_ok Hh) gl (n:=4000) (by kernel_rfl) (by kernel_rfl) (by kernel_rfl) h
  | false =>
   rw[b1] at e
   cases b2:(isT (eqInts x rootB)&&decide (a=64)) with
   | true =>
    rw[b2] at e
    cases e
    rw[Bool.and_eq_true] at b2
    obtain rfl:=eqInts_eq (isT_true b2.1)
    obtain rfl:=of_decide_eq_true b2.2
    exact CallOk.closed fits Hh (x3_ok Hh) gl (n:=4000) (by kernel_rfl) (by kernel_rfl) (by kernel_rfl) h
   | false=>rw[b2] at e; cases e
 ·cases e
theorem xInPut_ok {args:List W} {h h':Go.Ev.H} {v:V} (e:xInPut args h=some (v,h')):CallOk K Tryz.prog 55 args h v h':=by
 unfold xInPut at e
 split at e
 ·rename_i p a k l g s p0 p1 p2 p3 p4 p5 p6 p7 p8 p9 p10 nx
  obtain⟨b,e2⟩:=askB_some.1 e
  clear e
  simp only[Bool.and_eq_true,decide_eq_true_eq] at b
  obtain⟨⟨⟨⟨⟨⟨⟨⟨⟨⟨⟨⟨⟨⟨⟨rfl,rfl⟩,rfl⟩,rfl⟩,rfl⟩,rfl⟩,rfl⟩,rfl⟩,rfl⟩,rfl⟩,rfl⟩,rfl⟩,rfl⟩,rfl⟩,rfl⟩,rfl⟩:=b
  split at e2
  ·rename_i s x ro heq
   obtain⟨q,e3⟩:=askB_some.1 e2
   clear e2
   rw[Bool.and_eq_true] at q
   obtain⟨q1,q2⟩:=q
   cases b1:(isT (eqInts x zB)&&decide (a=0)) with
   | true =>
    rw[b1] at e3
    cases e3
    rw[Bool.and_eq_true] at b1
    obtain rfl:=Nat.eq_of_beq_eq_true q1
    obtain rfl:ro=false:=by simpa using q2
    obtain rfl:=eqInts_eq (isT_true b1.1)
    obtain rfl:=of_decide_eq_true b1.2
    exact CallOk.closedW fits Hh (x3_ok Hh) gl (n:=4000) (by kernel_rfl) rfl (by kernel_rfl) (by kernel_rfl) rfl h p heq
   | false =>
    rw[b1] at e3
    cases b2:(isT (eqInts x rootB)&&decide (a=64)) with
    | true =>
     rw[b2] at e3
     cases e3
     rw[Bool.and_eq_true] at b2
     obtain rfl:=Nat.eq_of_beq_eq_true q1
     obtain rfl:ro=false:=by simpa using q2
     obtain rfl:=eqInts_eq (isT_true b2.1)
     obtain rfl:=of_decide_eq_true b2.2
     exact CallOk.closedW fits Hh (x3_ok Hh) gl (n:=4000) (by kernel_rfl) rfl (by kernel_rfl) (by kernel_rfl) rfl h p heq
    | false=>rw[b2] at e3; cases e3
  ·cases e2
 ·cases e
end
end Go.Proofs.YtlbbmhgdcdcdnaaGreatDoor
