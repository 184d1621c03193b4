/- Slices of ints that come in: what they are to the evaluator. -/
import Derived.Test.YtdmendgkbikkaaaGreatDoorSli
import Derived.Test.YtdmendgkbikkaaaGreatDoorEvC
set_option linter.unusedSimpArgs false
set_option linter.unusedVariables false
set_option linter.unusedSectionVars false
set_option maxRecDepth 100000
namespace Go.Proofs.YtdmendgkbikkaaaGreatDoor
open Go.Ev Go.ChangeShapes Go.WideShapes
theorem Zxr (z:Int):Yq .u64 z=.int .u64 ((z % 18446744073709551616).toNat:Int):=by
 unfold Yq IntKind.wrap
 congr 1
 show (z % 18446744073709551616)=_
 have:=Int.emod_nonneg z (show (18446744073709551616:Int)≠0 by decide)
 omega
def Zmu (A:List Int):List (List C):=A.map fun z=>[.int .i64 z]
def ArI (n:Nat) (h:Go.Ev.H) (c:C) (A:List Int):Prop:=(Yv K 40 (.c c)=true∧∀ h,J6 K h 40 (.c c)=some (.int .i64 (A.length:Nat)))∧(A=[]∨∃ p ro,p<n∧c=.slice p 0 A.length 1∧h.get p=some (.row 1 (Zmu A) ro))
theorem ArI.keep {n:Nat} {h h':Go.Ev.H} {c:C} {A:List Int} (a:ArI n h c A) (k:∀ p,p<n→h'.get p=h.get p):ArI n h' c A :=
 ⟨a.1,a.2.imp id fun ⟨p,ro,h1,h2,h3⟩=>⟨p,ro,h1,h2,(k p h1).trans h3⟩⟩
noncomputable def Zwz (n:Nat) (a:Option (List Int)) (h:Go.Ev.H):Go.Ev.H:=match a with
 | none=>h
 | some A=>h.put n (.row 1 (Zmu A) true)
theorem Zmm {n m:Nat} {a:Option (List Int)} {h:Go.Ev.H} {o:O} (e:(Zwz n a h).get m=some o):(m=n∧∃ A,a=some A∧o=.row 1 (Zmu A) true)∨h.get m=some o:=by
 cases a with
 | none=>exact .inr e
 | some A =>
  have e':(h.put n (.row 1 (Zmu A) true)).get m=some o:=e
  rw[H.get_put] at e'
  split at e'
  ·rename_i q; cases e'; exact .inl ⟨q,A,rfl,rfl⟩
  ·exact .inr e'
theorem Zrj {n m:Nat} (a:Option (List Int)) (h:Go.Ev.H) (ne:m≠n):(Zwz n a h).get m=h.get m:=by
 cases a with
 | none=>rfl
 | some A=>exact Zo ne
theorem Zh0 (n:Nat) (a:Option (List Int)) (h:Go.Ev.H):(Zwz n a h).next=h.next:=by
 cases a with
 | none=>rfl
 | some A=>exact H.Zf ..
noncomputable def Ze5 (a b:Option (List Int)):Go.Ev.H:=Zwz 2 b (Zwz 1 a ⟨Sg.m,3⟩)
def Zmq (la lb:Go.Ev.Loc):Go.Ev.Ren:=fun n=>if n=2 then some lb else if n=1 then some la else if n=0 then some ⟨0,0,16⟩ else none
theorem Ztg (la lb:Go.Ev.Loc):Dom (Zmq la lb) 3:=fun n hn=>by
 unfold Zmq
 rw[if_neg (by omega),if_neg (by omega),if_neg (by omega)]
theorem Zhs {a b:Option (List Int)} {n:Nat} {o:O} (e:(Ze5 a b).get n=some o):(n=2∧∃ A,b=some A∧o=.row 1 (Zmu A) true)∨(n=1∧∃ A,a=some A∧o=.row 1 (Zmu A) true)∨Sg.get n=some o:=by
 rcases Zmm e with q|q
 ·exact .inl q
 ·rcases Zmm q with q|q
  ·exact .inr (.inl q)
  ·exact .inr (.inr q)
theorem Ze6 {a b:Option (List Int)} {n:Nat} {o:O} (e:(Ze5 a b).get n=some o):o.ro=true:=by
 rcases Zhs e with ⟨_,A,_,rfl⟩|⟨_,A,_,rfl⟩|q
 ·rfl
 ·rfl
 ·rw[(Dh q).2]; rfl
theorem Zw6 {W:World} {cs:Array Value} {t:TypeId} {fr:Nat × Nat} (hb:W.heap[0]? = some (.cells cs t fr)) (hcs:cs.toList=steps16.map (Value.int .u32)) {a b:Option (List Int)} {la lb:Go.Ev.Loc} (ha:∀ (ρ:Ren) A,a=some A→G6 ρ W (.row 1 (Zmu A) true) la) (hb2:∀ (ρ:Ren) A,b=some A→G6 ρ W (.row 1 (Zmu A) true) lb):Rep K (Zmq la lb) (Ze5 a b) W:=by
 have R:=Zcc gl hb hcs
 refine⟨fun g n h=>?_,fun n o h=>?_,fun n n' o o' l l' hne h h' _ _ hq=>?_⟩
 ·obtain⟨rfl,rfl⟩:=Vp gl h
  exact⟨16,rfl⟩
 ·rcases Zhs h with ⟨rfl,A,e,rfl⟩|⟨rfl,A,e,rfl⟩|q
  ·exact⟨lb,rfl,hb2 _ A e⟩
  ·exact⟨la,rfl,ha _ A e⟩
  ·obtain⟨l0,hl0,hor⟩:=R.obj n o q
   obtain⟨rfl,rfl⟩:=Dh q
   refine⟨l0,hl0,?_⟩
   have hs:(O.row 16 [steps16.map (C.int .u32)] true).simple=true:=rfl
   exact (Vx (σ:=fun _=>0) (ρ:=Zmq la lb) (w:=W) hs l0).2 ((Vx (σ:=fun _=>0) (ρ:=Nq 0) (w:=W) hs l0).1 hor)
 ·rw[Ze6 h,Ze6 h'] at hq
  rcases hq with q|q<;>cases q
theorem wf_u8 {n:Int} (h:(Lit.int .u8 n).wf=true):0≤n∧n<256:=by
 simp [Lit.wf,IntKind.min,IntKind.max,IntKind.signed,IntKind.bits] at h
 omega
end Go.Proofs.YtdmendgkbikkaaaGreatDoor
