/- stringslite.IndexByte, strings.IndexAny of short ASCII as the evaluator asks them. -/
import Derived.Test.YtmanipmhebgdbaaGreatDoorTrb
set_option maxRecDepth 100000
set_option linter.unusedSimpArgs false
set_option linter.unusedVariables false
set_option linter.unusedSectionVars false
namespace Go.Proofs.YtmanipmhebgdbaaGreatDoor
open Go.Ev Go.RowKit
noncomputable section
def Ybd (args:List W) (h:Hq):Option (V × Hq):=match args with
 | [.c (.str s),.c (.int .u8 c)]=>some (.w (.c (.int .i64 (Go.Lib.indexByte s c.toNat.toUInt8))),h)
 | _=>none
theorem Z77 {args:List W} {h h':Hq} {v:V} (e:Ybd args h=some (v,h')):Zb 217 args h v h':=by
 unfold Ybd at e
 split at e
 ·rename_i s c
  cases e
  refine Zx.Zwc ⟨Tryz.f217,Tryz.func217,kR,by decide⟩ fun ρ w vals hr ha=>?_
  obtain⟨a,b,rfl,hx,hy⟩:=Ez ha
  have e1:a=.string ⟨⟨s⟩⟩:=hx
  have e2:b=.int .u8 c:=hy
  subst e1; subst e2
  exact⟨_,rfl,Any.stringslite_IndexByte Tryz.lays217 ⟨⟨s⟩⟩ c w⟩
 ·cases e
def Zha:List UInt8->Bool
 | []=>true
 | b :: l=>Nat.blt b.toNat 128&&Zha l
theorem Zhb:∀ {l:List UInt8},Zha l=true->∀ (j:Nat) b,l[j]? = some b->b.toNat<128
 | [],_,j,b,h=>by simp at h
 | x :: l,e,j,b,h=>by
  simp only[Zha,aQ] at e
  cases j with
  | zero=>cases h; simpa [Nat.blt_eq] using e.1
  | succ j=>exact Zhb e.2 j b (by simpa using h)
def xIA (args:List W) (h:Hq):Option (V × Hq):=match args with
 | [.c (.str s),.c (.str c)]=>bif Nat.ble 2 c.length&&Nat.ble s.length 8&&Zha s then some (.w (.c (.int .i64 (Go.Lib.indexAny s c))),h) else none
 | _=>none
theorem Ya9 {args:List W} {h h':Hq} {v:V} (e:xIA args h=some (v,h')):Zb 189 args h v h':=by
 unfold xIA at e
 split at e
 ·rename_i s c
  cases hb:(Nat.ble 2 c.length&&Nat.ble s.length 8&&Zha s) with
  | false=>rw[hb] at e; cases e
  | true =>
   rw[hb] at e
   cases e
   simp only[aQ] at hb
   refine Zx.Z12 ⟨Tryz.f189,Tryz.func189,kR,by decide⟩ fun ρ w vals hr ha=>?_
   obtain⟨a,b,rfl,hx,hy⟩:=Ez ha
   have e1:a=.string ⟨⟨s⟩⟩:=hx
   have e2:b=.string ⟨⟨c⟩⟩:=hy
   subst e1; subst e2
   refine⟨_,rfl,(Any.strings_IndexAny_short Tryz.lays153 ⟨⟨s⟩⟩ ⟨⟨c⟩⟩ w (lQ hb.1.1) (lQ hb.1.2) (Zhb hb.2)).mono ?_⟩
   rintro e w' ⟨rfl,pos,rfl⟩
   exact⟨rfl,(Below.refl _ _).alloc (Nat.le_refl _) _⟩
 ·cases e
open Go.Ev
def Splits (path:List UInt8) (A:List (List UInt8)):Prop:=∀ h:Hq,0<h.next->∃ h' p,Zb 18 [.c (.str path)] h (.tup [.c (.slice p 0 A.length 1),.c (.int .i64 0)]) h'/\h.next<=p/\p<h'.next/\h'.get p=some (.row 1 (Mk A) false)/\∀ m,m<h.next->h'.get m=h.get m
def x5:Kn:=fun f args h=>bif Nat.beq f 144 then xIB args h else bif Nat.beq f 217 then Ybd args h else bif Nat.beq f 189 then xIA args h else none
theorem Z8x:Zch K Tryz.prog x5:=by
 intro f args h v h' e
 unfold x5 at e
 cases h1:Nat.beq f 144 with
 | true =>
  rw[h1] at e
  obtain rfl:=bQ h1
  exact Zcg e
 | false =>
  rw[h1] at e
  cases h2:Nat.beq f 217 with
  | true =>
   rw[h2] at e
   obtain rfl:=bQ h2
   exact Z77 e
  | false =>
   rw[h2] at e
   cases h3:Nat.beq f 189 with
   | true =>
    rw[h3] at e
    obtain rfl:=bQ h3
    exact Ya9 e
   | false=>rw[h3] at e; cases e
section
variable (Hh:Hearts K Tryz.prog)
include Hh
theorem Splits.run {path:List UInt8} {A:List (List UInt8)} (e:Z2u (evX K x5 5000 (.call 18 [.c (.str path)] ⟨.nil,1⟩))=some (Mk A)) (a0:0<A.length):Splits path A:=fun h h0=>by
 obtain⟨h',s,cc,nx,kk,w⟩:=Zx.Z5n fits Hh Z8x gl e rfl h h0
 have rl:(Mk A).length=A.length:=by unfold Mk; rw[List.length_map]
 rcases w with ⟨w,_⟩|⟨q,q1,q2,rfl,q3,_⟩
 ·rw[w] at rl; simp at rl; omega
 ·rw[rl] at cc
  exact⟨h',q,cc,q1,q2,q3,kk⟩
end
def nmQ (k:Nat):List UInt8:=[UInt8.ofNat (97+k / 26),UInt8.ofNat (97+k % 26)]
def isB:List UInt8->List UInt8->Bool
 | [],[]=>true
 | a :: l,b :: m=>Nat.beq a.toNat b.toNat&&isB l m
 | _,_=>false
theorem Zs7:∀ {l m:List UInt8},isB l m=true->l=m
 | [],[],_=>rfl
 | a :: l,b :: m,e=>by
  obtain⟨e1,e2⟩:=Bool.and_eq_true_iff.1 e
  rw[UInt8.toNat_inj.1 (bQ e1),Zs7 e2]
 | [],_ :: _,e=>by cases e
 | _ :: _,[],e=>by cases e
def isT:List (List C)->List (List UInt8)->Bool
 | [],[]=>true
 | [.str s] :: l,a :: m=>isB s a&&isT l m
 | _,_=>false
theorem Z1n:∀ {l:List (List C)} {m:List (List UInt8)},isT l m=true->l=Mk m
 | l,m,e=>by
  unfold isT at e
  split at e
  ·rfl
  ·obtain⟨e1,e2⟩:=Bool.and_eq_true_iff.1 e
   rw[Zs7 e1,Z1n e2]; rfl
  ·cases e
def isO (o:Option (List (List C))) (m:List (List UInt8)):Bool:=match o with
 | some l=>isT l m
 | none=>false
theorem Z9y {o:Option (List (List C))} {m:List (List UInt8)} (e:isO o m=true):o=some (Mk m):=by
 cases o with
 | none=>cases e
 | some l=>rw[Z1n (show isT l m=true from e)]
def Zbk:Nat->(Nat->Bool)->Bool
 | 0,_=>true
 | n+1,f=>f n&&Zbk n f
theorem Zcj:∀ {n:Nat} {f:Nat->Bool},Zbk n f=true->∀ k,k<n->f k=true
 | 0,_,_,k,h=>absurd h oM
 | n+1,f,e,k,h=>by
  obtain⟨e1,e2⟩:=Bool.and_eq_true_iff.1 (show (f n&&Zbk n f)=true from e)
  by_cases q:k=n
  ·rw[q]; exact e1
  ·exact Zcj e2 k oM
def Yen (p:Nat->List UInt8) (A:Nat->List (List UInt8)) (k:Nat):Bool:=isO (Z2u (evX K x5 5000 (.call 18 [.c (.str (p k))] ⟨.nil,1⟩))) (A k)
def chk (p:Nat->List UInt8) (A:Nat->List (List UInt8)) (i:Nat):Bool:=Zbk 52 fun j=>Yen p A (52 * i+j)
def Y1 (c:UInt8) (t:List UInt8) (k:Nat):List UInt8:=47 :: c :: (nmQ k++t)
def isS (o:Option V) (m:List UInt8):Bool:=match o with
 | some (.w (.c (.str l)))=>isB l m
 | _=>false
theorem Z9z {o:Option V} {m:List UInt8} (e:isS o m=true):o=some (.w (.c (.str m))):=by
 unfold isS at e
 split at e
 ·rw[Zs7 e]
 ·cases e
def Zcr (i:Nat):Bool:=Zbk 52 fun j=>isS (Zkr (evX K x5 1000 (.call 8 [.c (.int .i64 ((52 * i+j:Nat):Int))] ⟨.nil,1⟩))) (nmQ (52 * i+j))
theorem lt13 {P:Nat->Prop} (p0:P 0) (p1:P 1) (p2:P 2) (p3:P 3) (p4:P 4) (p5:P 5) (p6:P 6) (p7:P 7) (p8:P 8) (p9:P 9) (p10:P 10) (p11:P 11) (p12:P 12):∀ i,i<13->P i
 | 0,_=>p0|1,_=>p1|2,_=>p2|3,_=>p3|4,_=>p4|5,_=>p5|6,_=>p6|7,_=>p7|8,_=>p8|9,_=>p9|10,_=>p10|11,_=>p11|12,_=>p12
 | _+13,h=>absurd h oM
theorem in13 {k:Nat} (h:k<676):∃ i j,i<13/\j<52/\k=52 * i+j:=⟨k / 52,k % 52,oM,oM,oM⟩
section
variable (Hh:Hearts K Tryz.prog)
include Hh
theorem Splits.all {p:Nat->List UInt8} {A:Nat->List (List UInt8)} (a0:∀ k,0<(A k).length) (e:∀ i,i<13->chk p A i=true) {k:Nat} (h:k<676):Splits (p k) (A k):=by
 obtain⟨i,j,hi,hj,rfl⟩:=in13 h
 exact Splits.run Hh (Z9y (Zcj (e i hi) j hj)) (a0 _)
end
end
end Go.Proofs.YtmanipmhebgdbaaGreatDoor
