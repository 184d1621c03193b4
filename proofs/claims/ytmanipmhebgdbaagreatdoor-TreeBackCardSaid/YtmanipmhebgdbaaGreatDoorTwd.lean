/- Slices of ints that come in: what they are to the evaluator. -/
import Derived.Test.YtmanipmhebgdbaaGreatDoorTtk
set_option maxRecDepth 100000
set_option maxHeartbeats 4000000
set_option linter.unusedSimpArgs false
set_option linter.unusedVariables false
set_option linter.unusedSectionVars false
namespace Go.Proofs.YtmanipmhebgdbaaGreatDoor
open Go.Ev Go.ChangeShapes Go.WideShapes
noncomputable section
theorem Zrr (z:Int):Jm .u64 z=.int .u64 ((z % 18446744073709551616).toNat:Int):=by
 unfold Jm IntKind.wrap
 congr 1
 show (z % 18446744073709551616)=_
 have:=Int.emod_nonneg z (show (18446744073709551616:Int)≠0 by decide)
 omega
def Zrd (A:List Int):List (List C):=A.map fun z=>[.int .i64 z]
def ArI (n:Nat) (h:Hq) (c:C) (A:List Int):Prop:=(Y4 K 22 (.c c)=true/\∀ h,Jl K h 22 (.c c)=some (.int .i64 (A.length:Nat)))/\(A=[]\/∃ p ro,p<n/\c=.slice p 0 A.length 1/\h.get p=some (.row 1 (Zrd A) ro))
theorem ArI.keep {n:Nat} {h h':Hq} {c:C} {A:List Int} (a:ArI n h c A) (k:∀ p,p<n->h'.get p=h.get p):ArI n h' c A :=
 ⟨a.1,a.2.imp id fun ⟨p,ro,h1,h2,h3⟩=>⟨p,ro,h1,h2,(k p h1).trans h3⟩⟩
def Z2i (n:Nat) (a:Option (List Int)) (h:Hq):Hq:=match a with
 | none=>h
 | some A=>h.put n (.row 1 (Zrd A) true)
theorem Zq5 {n m:Nat} {a:Option (List Int)} {h:Hq} {o:O} (e:(Z2i n a h).get m=some o):(m=n/\∃ A,a=some A/\o=.row 1 (Zrd A) true)\/h.get m=some o:=by
 cases a with
 | none=>exact .inr e
 | some A =>
  have e':(h.put n (.row 1 (Zrd A) true)).get m=some o:=e
  rw[H.get_put] at e'
  split at e'
  ·rename_i q; cases e'; exact .inl ⟨q,A,rfl,rfl⟩
  ·exact .inr e'
theorem Zwk {n m:Nat} (a:Option (List Int)) (h:Hq) (ne:m≠n):(Z2i n a h).get m=h.get m:=by
 cases a with
 | none=>rfl
 | some A=>exact Zc ne
theorem Zlx (n:Nat) (a:Option (List Int)) (h:Hq):(Z2i n a h).next=h.next:=by
 cases a with
 | none=>rfl
 | some A=>exact H.Zf ..
def Zij (a b:Option (List Int)):Hq:=Z2i 2 b (Z2i 1 a ⟨Wi.m,3⟩)
def Zq9 (la lb:Go.Ev.Loc):Go.Ev.Ren:=fun n=>if n=2 then some lb else if n=1 then some la else if n=0 then some ⟨1,0,16⟩ else none
theorem Zym (la lb:Go.Ev.Loc):Dom (Zq9 la lb) 3:=fun n hn=>by
 unfold Zq9
 rw[if_neg oM,if_neg oM,if_neg oM]
theorem Zln {a b:Option (List Int)} {n:Nat} {o:O} (e:(Zij a b).get n=some o):(n=2/\∃ A,b=some A/\o=.row 1 (Zrd A) true)\/(n=1/\∃ A,a=some A/\o=.row 1 (Zrd A) true)\/Wi.get n=some o:=by
 rcases Zq5 e with q|q
 ·exact .inl q
 ·rcases Zq5 q with q|q
  ·exact .inr (.inl q)
  ·exact .inr (.inr q)
theorem Zik {a b:Option (List Int)} {n:Nat} {o:O} (e:(Zij a b).get n=some o):o.ro=true:=by
 rcases Zln e with ⟨_,A,_,rfl⟩|⟨_,A,_,rfl⟩|q
 ·rfl
 ·rfl
 ·rw[(Fu q).2]; rfl
theorem Z2r {W:World} {cs:Array Value} {t:TypeId} {fr:Nat × Nat} (hb:W.heap[1]? = some (.cells cs t fr)) (hcs:cs.toList=steps16.map (Value.int .u32)) {a b:Option (List Int)} {la lb:Go.Ev.Loc} (ha:∀ (ρ:Ren) A,a=some A->Dv ρ W (.row 1 (Zrd A) true) la) (hb2:∀ (ρ:Ren) A,b=some A->Dv ρ W (.row 1 (Zrd A) true) lb):Rep K (Zq9 la lb) (Zij a b) W:=by
 have R:=Ze6 gl hb hcs
 refine⟨fun g n h=>?_,fun n o h=>?_,fun n n' o o' l l' hne h h' _ _ hq=>?_⟩
 ·obtain⟨rfl,rfl⟩:=Sj gl h
  exact⟨16,rfl⟩
 ·rcases Zln h with ⟨rfl,A,e,rfl⟩|⟨rfl,A,e,rfl⟩|q
  ·exact⟨lb,rfl,hb2 _ A e⟩
  ·exact⟨la,rfl,ha _ A e⟩
  ·obtain⟨l0,hl0,hor⟩:=R.obj n o q
   obtain⟨rfl,rfl⟩:=Fu q
   refine⟨l0,hl0,?_⟩
   have hs:(O.row 16 [steps16.map (C.int .u32)] true).simple=true:=rfl
   exact (Zae (σ:=fun _=>0) (ρ:=Zq9 la lb) (w:=W) hs l0).2 ((Zae (σ:=fun _=>0) (ρ:=Vj 1) (w:=W) hs l0).1 hor)
 ·rw[Zik h,Zik h'] at hq
  rcases hq with q|q<;>cases q
theorem wf_u8 {n:Int} (h:(Lit.int .u8 n).wf=true):0<=n/\n<256:=by
 simp [Lit.wf,IntKind.min,IntKind.max,IntKind.signed,IntKind.bits] at h
 omega
open Go.Ev
noncomputable def q6 (p:Lq):Code:=piece p (J8 Tryz.f6)
theorem rs6:Tryz.f6.results.toList=[.cell 2 28,.tmp 3]:=rfl
attribute [go_sem] rs6
theorem lfB (p:Nat):Y4 K 106 (.c (.slice p 0 162 256))=true:=kR
theorem lfT:Y4 K 58 (.c .snil)=true:=kR
theorem HE.Yb0 {n q a b c e w:Nat} {cr:Cr} {md:Int} {S T:Lq} {V:Nat->Lq} {h h2:Hq} {y:List (List C)} {ro:Bool} (M:HE n q a b c e cr md S T V h) (hw:h.get w=some (.row 4 y ro)) (w0:0<w) (wn:w<n) (nx:h.next<=h2.next) (k:∀ m,m<q+9->m≠w->h2.get m=h.get m):HE n q a b c e cr md S T V h2:=by
 obtain⟨d,d1,d2,kn,ld,lt,lc,lm,L,f1,f2,f3,f4,f5,f6,f7,f8,f9,f10,f11,M⟩:=M
 refine⟨d,d1,d2,kn,ld,lt,lc,lm,L,f1,f2,f3,f4,f5,f6,f7,f8,f9,f10,f11,?_⟩
 obtain⟨f1,f2,f3,f4,l1,l2,f5,f6,f7,f8,f9,f10,f11,f12,f13,f14,f15,f16,f17,f18,f19,f20,f21⟩:=M
 have wd:d≠w:=fun e=>by
  rw[e,hw] at f8
  have:=(O.row.inj (Option.some.inj f8)).1
  omega
 have wq:d2≠w:=fun e=>by
  rw[e,hw] at f9
  have:=(O.row.inj (Option.some.inj f9)).1
  omega
 have db:=Zhr q cr
 exact⟨(k _ oM oM).trans f1,f2,f3,oM,l1,l2,(k _ oM oM).trans f5,(k _ oM oM).trans f6,(k _ oM oM).trans f7,(k _ oM oM).trans f8,(k _ oM oM).trans f9,(k _ oM oM).trans f10,(k _ oM oM).trans f11,(k _ oM oM).trans f12,(k _ oM oM).trans f13,(k _ oM oM).trans f14,(k _ oM oM).trans f15,(k _ oM oM).trans f16,f17,(k _ oM oM).trans f18,(k _ oM oM).trans f19,(fun o=>(k _ oM oM).trans (f20 o)),(k _ oM oM).trans f21⟩
section
variable (Hh:Hearts K Tryz.prog)
include Hh
theorem Ya8 {mo:Nat} (mo1:mo<256) {h:Hq} (hst:h.get 0=some Bt) (l0:0<h.next) :
  ∃ h' n r d y,Zb 6 [.c (.int .u8 (mo:Int))] h (.tup [.g [.ptr (n+13) 0,.ptr r 0,.ptr d 0,.ptr y 0],.c (.bool true)]) h'/\HE n (n+14) 2 60 32 40 (Cr.cl []) (1+((mo % 3:Nat):Int)) [] [] V4 h'/\h.next<=n/\∀ m,m<h.next->h'.get m=h.get m:=by
 have rm3:Nr .u8 (mo:Int) 3=some (.int .u8 ((mo % 3:Nat):Int)):=Et (b:=3) oM
 have k3:=Nat.mod_lt mo (show 0<3 by omega)
 obtain⟨k,hk⟩:=xzE (mo % 3)
 rw[hk] at rm3 k3 ⊢
 obtain⟨md,hmd⟩:=xzE (1+(k:Int))
 have m1:1<=md/\md<=3:=oM
 have wmd:Jm .u8 (1+(k:Int))=.int .u8 md:=by rw[Zd0 oM,hmd]
 rw[hmd]
 obtain⟨v,h',cc,n,r,d,y,rfl,M',hn,kk⟩:∃ v h',Zb 6 [.c (.int .u8 (mo:Int))] h v h'/\∃ n r d y,v=.tup [.g [.ptr (n+13) 0,.ptr r 0,.ptr d 0,.ptr y 0],.c (.bool true)]/\HE n (n+14) 2 60 32 40 (Cr.cl []) md [] [] V4 h'/\h.next<=n/\∀ m,m<h.next->h'.get m=h.get m:=by
  refine Ym Hh Tryz.f6 ?_
  have Jf:=Y2 @rm3 @wmd
  iterate 3 (first|refine Zn Hh Za Jk ?_|apply gS)
  refine Jq fun hA eA=>?_
  have nA:hA.next=h.next+1:=nxQ eA
  have kA:∀ m,m<h.next->hA.get m=h.get m:=kQ eA
  obtain⟨y2,y2l,a2⟩:∃ y:List C,y.length=4/\hA.get h.next=some (.row 4 [y] false):=⟨_,rfl,by rw[eA]; exact Yi⟩
  clear eA
  obtain⟨hW,n,d,d1,d2',r,y,c1,MW,nW,kW⟩:=Z74 Hh m1.1 m1.2 (h:=hA) ((kA 0 l0).trans hst) oM lfB lfT
  have wx:=MW.nx
  have W2:=(kW h.next oM).trans a2
  have Jf:=Jh Jf @W2 @y2l
  iterate 2 (first|refine Zn Hh (Zj Za c1) Jk ?_|apply gS)
  refine⟨_,_,Zt,n,r,d,y,rfl,(MW.closed (fun z z1 _=>Z80 z z1)).Yb0 W2 oM oM ?_ (fun m hm hne=>?_),oM,fun m hm=>?_⟩
  ·simp only[H.Zf,H.Ze,H.Yv]<;>omega
  ·exact Yn
  ·refine Eq.trans ?_ ((kW m oM).trans (kA m hm)); exact Yn
 exact⟨h',n,r,d,y,cc,M',hn,kk⟩
end
end
end Go.Proofs.YtmanipmhebgdbaaGreatDoor
