/- Slices of ints that come in: what they are to the evaluator. -/
import Derived.Test.YteiljiijagmonaaGreatDoorSli
set_option maxRecDepth 100000
set_option linter.unusedSimpArgs false
set_option linter.unusedVariables false
set_option linter.unusedSectionVars false
namespace Go.Proofs.YteiljiijagmonaaGreatDoor
open Go.Ev Go.ChangeShapes Go.WideShapes
theorem Zio (z:Int):Jb .u64 z=.int .u64 ((z % 18446744073709551616).toNat:Int):=by
 unfold Jb IntKind.wrap
 congr 1
 show (z % 18446744073709551616)=_
 have:=Int.emod_nonneg z (show (18446744073709551616:Int)≠0 by decide)
 omega
def Zp5 (A:List Int):List (List C):=A.map fun z=>[.int .i64 z]
def ArI (n:Nat) (h:Hq) (c:C) (A:List Int):Prop:=(Yx K 40 (.c c)=true/\∀ h,J5 K h 40 (.c c)=some (.int .i64 (A.length:Nat)))/\(A=[]\/∃ p ro,p<n/\c=.slice p 0 A.length 1/\h.get p=some (.row 1 (Zp5 A) ro))
theorem ArI.keep {n:Nat} {h h':Hq} {c:C} {A:List Int} (a:ArI n h c A) (k:∀ p,p<n->h'.get p=h.get p):ArI n h' c A :=
 ⟨a.1,a.2.imp id fun ⟨p,ro,h1,h2,h3⟩=>⟨p,ro,h1,h2,(k p h1).trans h3⟩⟩
noncomputable def Z0g (n:Nat) (a:Option (List Int)) (h:Hq):Hq:=match a with
 | none=>h
 | some A=>h.put n (.row 1 (Zp5 A) true)
theorem Zpp {n m:Nat} {a:Option (List Int)} {h:Hq} {o:O} (e:(Z0g n a h).get m=some o):(m=n/\∃ A,a=some A/\o=.row 1 (Zp5 A) true)\/h.get m=some o:=by
 cases a with
 | none=>exact .inr e
 | some A =>
  have e':(h.put n (.row 1 (Zp5 A) true)).get m=some o:=e
  rw[H.get_put] at e'
  split at e'
  ·rename_i q; cases e'; exact .inl ⟨q,A,rfl,rfl⟩
  ·exact .inr e'
theorem Zuy {n m:Nat} (a:Option (List Int)) (h:Hq) (ne:m≠n):(Z0g n a h).get m=h.get m:=by
 cases a with
 | none=>rfl
 | some A=>exact Zd ne
theorem Zkv (n:Nat) (a:Option (List Int)) (h:Hq):(Z0g n a h).next=h.next:=by
 cases a with
 | none=>rfl
 | some A=>exact H.Zb ..
noncomputable def Zhn (a b:Option (List Int)):Hq:=Z0g 2 b (Z0g 1 a ⟨Xc.m,3⟩)
def Zp0 (la lb:Go.Ev.Loc):Go.Ev.Ren:=fun n=>if n=2 then some lb else if n=1 then some la else if n=0 then some ⟨0,0,16⟩ else none
theorem Zwx (la lb:Go.Ev.Loc):Dom (Zp0 la lb) 3:=fun n hn=>by
 unfold Zp0
 rw[if_neg oM,if_neg oM,if_neg oM]
theorem Zkm {a b:Option (List Int)} {n:Nat} {o:O} (e:(Zhn a b).get n=some o):(n=2/\∃ A,b=some A/\o=.row 1 (Zp5 A) true)\/(n=1/\∃ A,a=some A/\o=.row 1 (Zp5 A) true)\/Xc.get n=some o:=by
 rcases Zpp e with q|q
 ·exact .inl q
 ·rcases Zpp q with q|q
  ·exact .inr (.inl q)
  ·exact .inr (.inr q)
theorem Zho {a b:Option (List Int)} {n:Nat} {o:O} (e:(Zhn a b).get n=some o):o.ro=true:=by
 rcases Zkm e with ⟨_,A,_,rfl⟩|⟨_,A,_,rfl⟩|q
 ·rfl
 ·rfl
 ·rw[(Fb q).2]; rfl
theorem Z0m {W:World} {cs:Array Value} {t:TypeId} {fr:Nat × Nat} (hb:W.heap[0]? = some (.cells cs t fr)) (hcs:cs.toList=steps16.map (Value.int .u32)) {a b:Option (List Int)} {la lb:Go.Ev.Loc} (ha:∀ (ρ:Ren) A,a=some A->Bv ρ W (.row 1 (Zp5 A) true) la) (hb2:∀ (ρ:Ren) A,b=some A->Bv ρ W (.row 1 (Zp5 A) true) lb):Rep K (Zp0 la lb) (Zhn a b) W:=by
 have R:=Zen gl hb hcs
 refine⟨fun g n h=>?_,fun n o h=>?_,fun n n' o o' l l' hne h h' _ _ hq=>?_⟩
 ·obtain⟨rfl,rfl⟩:=Tp gl h
  exact⟨16,rfl⟩
 ·rcases Zkm h with ⟨rfl,A,e,rfl⟩|⟨rfl,A,e,rfl⟩|q
  ·exact⟨lb,rfl,hb2 _ A e⟩
  ·exact⟨la,rfl,ha _ A e⟩
  ·obtain⟨l0,hl0,hor⟩:=R.obj n o q
   obtain⟨rfl,rfl⟩:=Fb q
   refine⟨l0,hl0,?_⟩
   have hs:(O.row 16 [steps16.map (C.int .u32)] true).simple=true:=rfl
   exact (Qs (σ:=fun _=>0) (ρ:=Zp0 la lb) (w:=W) hs l0).2 ((Qs (σ:=fun _=>0) (ρ:=Sr 0) (w:=W) hs l0).1 hor)
 ·rw[Zho h,Zho h'] at hq
  rcases hq with q|q<;>cases q
theorem wf_u8 {n:Int} (h:(Lit.int .u8 n).wf=true):0<=n/\n<256:=by
 simp [Lit.wf,IntKind.min,IntKind.max,IntKind.signed,IntKind.bits] at h
 omega
end Go.Proofs.YteiljiijagmonaaGreatDoor
