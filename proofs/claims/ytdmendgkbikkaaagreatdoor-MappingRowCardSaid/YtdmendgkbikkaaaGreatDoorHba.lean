/- geo of a geometry that may be, as the walks ask it: data, groups' starts, inodes. -/
import Derived.Test.YtdmendgkbikkaaaGreatDoorBeg
import Derived.Test.YtdmendgkbikkaaaGreatDoorBeg3
import Derived.Test.YtdmendgkbikkaaaGreatDoorSto4
set_option linter.unusedSimpArgs false
set_option linter.unusedVariables false
set_option linter.unusedSectionVars false
set_option maxRecDepth 100000
set_option maxHeartbeats 4000000
namespace Go.Proofs.YtdmendgkbikkaaaGreatDoor
open Go.Ev
noncomputable def Qf (a b c d:Int) (k:Nat→Nat→Nat→Nat→Option (V × Go.Ev.H)):Option (V × Go.Ev.H):=(Ue a).bind fun a=>(Ue b).bind fun b=>(Ue c).bind fun c=>(Ue d).bind fun d=>Yp (Y2 a b c d) (k a b c d)
theorem Rb {a b c d:Int} {k:Nat→Nat→Nat→Nat→Option (V × Go.Ev.H)} {r:V × Go.Ev.H} (e:Qf a b c d k=some r):∃ a' b' c' d':Nat,a=a'∧b=b'∧c=c'∧d=d'∧Y2 a' b' c' d'=true∧k a' b' c' d'=some r:=by
 obtain⟨a',ha,e⟩:=Zh e
 obtain⟨b',hb,e⟩:=Zh e
 obtain⟨c',hc,e⟩:=Zh e
 obtain⟨d',hd,e⟩:=Zh e
 obtain⟨f,e⟩:=Zr.1 e
 exact⟨a',b',c',d',Yc ha,Yc hb,Yc hc,Yc hd,f,e⟩
noncomputable def Zqe:Kn1:=fun args h=>match args with
 | [.g [.int .i64 a,.int .i64 b,.int .i64 c,.int .i64 d]]=>Qf a b c d fun _ b c _=>some (.w (.c (.int .i64 ((b - 2 - c / 4:Nat):Int))),h)
 | _=>none
noncomputable def Zku:Kn1:=fun args h=>match args with
 | [.g [.int .i64 a,.int .i64 b,.int .i64 c,.int .i64 d],.c (.int .i64 k)]=>Qf a b c d fun a b _ d=>(Ue k).bind fun k=>Yp (decide (k<a)) (some (.tup [.c (.int .i64 ((2+d+k * b:Nat):Int)),.c (.bool true)],h))
 | _=>none
noncomputable def Zy1:Kn1:=fun args h=>match args with
 | [.g [.int .i64 a,.int .i64 b,.int .i64 c,.int .i64 d]]=>Qf a b c d fun a _ c _=>some (.w (.c (.int .i64 ((a * c:Nat):Int))),h)
 | _=>none
noncomputable def Zy3:Kn1:=fun args h=>match args with
 | [.g [.int .i64 a,.int .i64 b,.int .i64 c,.int .i64 d],.c (.int .i64 k),.c (.int .i64 i)]=>Qf a b c d fun a _ c _=>(Ue k).bind fun k=>(Ue i).bind fun i=>Yp (decide (k<a)&&decide (i<c)) (some (.w (.c (.int .i64 ((k * c+i+1:Nat):Int))),h))
 | _=>none
noncomputable def Z4c:Kn1:=fun args h=>match args with
 | [.g [.int .i64 a,.int .i64 b,.int .i64 c,.int .i64 d],.c (.int .i64 z)]=>Qf a b c d fun a _ c _=>bif decide (1≤z)&&decide (z≤((a * c:Nat):Int)) then some (.tup [.c (.int .i64 (((z.toNat - 1) / c:Nat):Int)),.c (.int .i64 (((z.toNat - 1) % c:Nat):Int)),.c (.bool true)],h) else some (.tup [.c (.int .i64 0),.c (.int .i64 0),.c (.bool false)],h)
 | _=>none
noncomputable def Z1s:Kn1:=fun args h=>match args with
 | [.g [.int .i64 a,.int .i64 b,.int .i64 c,.int .i64 d],.c (.int .i64 z)]=>Qf a b c d fun a b c d=>bif decide (1≤z)&&decide (z≤((a * c:Nat):Int)) then some (.tup [.c (.int .i64 ((2+d+(z.toNat - 1) / c * b+2+(z.toNat - 1) % c / 4:Nat):Int)),.c (.int .i64 (((z.toNat - 1) % c % 4 * 64:Nat):Int)),.c (.bool true)],h) else some (.tup [.c (.int .i64 0),.c (.int .i64 0),.c (.bool false)],h)
 | _=>none
attribute [go_sem] Qf Zqe Zku Zy1 Zy3 Z4c Z1s
section
variable (Hh:Hearts K Tryz.prog)
include Hh
theorem Zuc {args:List W} {h h':Go.Ev.H} {v:V} (e:Zqe args h=some (v,h')):Zg 162 args h v h':=by
 unfold Zqe at e
 split at e
 ·obtain⟨a,b,c,d,rfl,rfl,rfl,rfl,f,e⟩:=Rb e
  obtain⟨g1,g2,g3,g4,g5,g6,g7,g8,g9,g10,g11⟩:=Yh f
  cases e
  have q1:F9 .i64 (c:Int) 4=some (.int .i64 ((c / 4:Nat):Int)):=Nc (b:=4) (by omega) (by omega)
  have e2:(b:Int) - 2=((b - 2:Nat):Int):=by omega
  have e3:((b - 2:Nat):Int) - ((c / 4:Nat):Int)=((b - 2 - c / 4:Nat):Int):=by omega
  refine Wo rfl ?_
  refine Jd Hh Tryz.f162 ?_
  have Jf:=Oz @f @q1 @e2 @e3
  repeat (first|apply Zp|apply Z6|apply Yb|refine Goes.Zn Xh ?_|refine Zy Hh (EY Za (Gz Hh)) Xh ?_)
  exact⟨_,_,Zj,rfl,fun m hm=>by exact Jg⟩
 ·cases e
theorem Qq {args:List W} {h h':Go.Ev.H} {v:V} (e:Zku args h=some (v,h')):Zg 140 args h v h':=by
 unfold Zku at e
 split at e
 ·obtain⟨a,b,c,d,rfl,rfl,rfl,rfl,f,e⟩:=Rb e
  obtain⟨g1,g2,g3,g4,g5,g6,g7,g8,g9,g10,g11⟩:=Yh f
  obtain⟨k,hk,e⟩:=Zh e
  obtain⟨bk,e⟩:=Zr.1 e
  have kl:=of_decide_eq_true bk
  cases e
  rw[Yc hk]
  have b1:k * b≤a * b:=Nat.mul_le_mul (by omega) (by omega)
  have gi:(k:Int) * (b:Int)=((k * b:Nat):Int):=rfl
  refine Wo rfl ?_
  refine Jd Hh Tryz.f140 ?_
  have Jf:=Uq @f @gi
  repeat (first|apply Zp|apply Z6|apply Yb|refine Goes.Zn Xh ?_|refine Zy Hh (EY Za (Gz Hh)) Xh ?_)
  exact⟨_,_,Zj,rfl,fun m hm=>by exact Jg⟩
 ·cases e
end
theorem rs54:Tryz.f54.results.toList=[.cell 2 54]:=rfl
theorem rs74:Tryz.f74.results.toList=[.tmp 2]:=rfl
theorem rs75:Tryz.f75.results.toList=[.tmp 2]:=rfl
attribute [go_sem] rs54 rs74 rs75
noncomputable def Zyn:Kn1:=fun args h=>match args with
 | [.c (.ptr s 0)]=>(Gi h s).bind fun S=>(Ea h S.gd).bind fun G=>some (.w (.g (Yw G.gr G.sz G.ino G.jr)),h)
 | _=>none
noncomputable def Zp0:Kn1:=fun args h=>match args with
 | [.c (.ptr s 0)]=>(Gi h s).bind fun _=>some (.w (.c (.bool false)),h)
 | _=>none
noncomputable def Zyq:Kn1:=fun args h=>match args with
 | [.c (.ptr s 0)]=>(Gi h s).bind fun S=>(Uh h S.tx).bind fun X=>some (.w (.c (.bool X.op)),h)
 | _=>none
noncomputable def Z33:Kn1:=fun args h=>match args with
 | [.c (.ptr s 0)]=>(Gi h s).bind fun S=>(Ea h S.gd).bind fun _=>some (.w (.c (.int .i64 0)),h)
 | _=>none
noncomputable def Z34:Kn1:=fun args h=>match args with
 | [.c (.ptr s 0)]=>(Gi h s).bind fun S=>(Ea h S.gd).bind fun _=>(Uh h S.tx).bind fun X=>Yp X.op (some (.w (.c (.int .i64 0)),h))
 | _=>none
noncomputable def Zx2:Kn1:=fun args h=>match args with
 | [.g [.int .i64 a,.int .i64 b,.int .i64 c,.int .i64 d],.c (.int .i64 k)]=>Qf a b c d fun a b _ d=>(Ue k).bind fun k=>Yp (decide (k<a)) (some (.w (.c (.int .i64 ((2+d+k * b+1:Nat):Int))),h))
 | _=>none
attribute [go_sem] Zyn Zp0 Zyq Z33 Z34 Zx2
section
variable (Hh:Hearts K Tryz.prog)
include Hh
theorem El {args:List W} {h h':Go.Ev.H} {v:V} (e:Zyn args h=some (v,h')):Zg 54 args h v h':=by
 unfold Zyn at e
 split at e
 ·rename_i s
  obtain⟨S,hs,e⟩:=Zh e
  have hs:=Ja hs
  obtain⟨G,hg,e⟩:=Zh e
  obtain⟨hg,fb⟩:=Un hg
  cases e
  refine Zv.tidy ⟨Tryz.f54,Tryz.func54,by kernel_rfl,by decide⟩ fun tidy=>?_
  have l1:=tidy _ _ hs
  have l2:=tidy _ _ hg
  have gl4:Zm 9 [gdL G] 0 4=some (Yw G.gr G.sz G.ino G.jr):=rfl
  have gl5:∀ x:List C,x.length≤4∧4≤x.length→Z9 4 [x] 0 (Yw G.gr G.sz G.ino G.jr)=some [Yw G.gr G.sz G.ino G.jr]:=fun x hx=>Xd ⟨Nat.le_refl 4,Nat.le_refl 4,hx.1,hx.2,by omega⟩
  have gl6:Zm 4 [Yw G.gr G.sz G.ino G.jr] 0 4=some (Yw G.gr G.sz G.ino G.jr):=rfl
  obtain⟨v,h',c,rfl,hk⟩:∃ v h',Zg 54 [.c (.ptr s 0)] h v h'∧v=.w (.g (Yw G.gr G.sz G.ino G.jr))∧∀ m,m<h.next→h'.get m=h.get m:=by
   refine Jd Hh Tryz.f54 ?_
   have Jf:=Mt @hs @hg @gl4 @gl5 @gl6
   repeat (first|apply Zp|apply Z6|apply Yb|refine Goes.Zn G8 ?_|refine Zy Hh (EY Za (U3 Hh)) G8 ?_)
   exact⟨_,_,(by have Jf:=@gl6; exact Z5),rfl,fun m hm=>by exact Jg⟩
  exact c.quiet rfl hk
 ·cases e
theorem Zin {args:List W} {h h':Go.Ev.H} {v:V} (e:Zp0 args h=some (v,h')):Zg 74 args h v h':=by
 unfold Zp0 at e
 split at e
 ·rename_i s
  obtain⟨S,hs,e⟩:=Zh e
  have hs:=Ja hs
  cases e
  refine fnG Hh Tryz.f74 ?_
  have Jf:=@hs
  repeat (first|apply Zp|apply Yb|refine Zy Hh (EY Za (U3 Hh)) Yi ?_)
  exact Zj
 ·cases e
theorem Zne {args:List W} {h h':Go.Ev.H} {v:V} (e:Zyq args h=some (v,h')):Zg 75 args h v h':=by
 unfold Zyq at e
 split at e
 ·rename_i s
  obtain⟨S,hs,e⟩:=Zh e
  have hs:=Ja hs
  obtain⟨X,ht,e⟩:=Zh e
  have ht:=Ym ht
  cases e
  refine fnG Hh Tryz.f75 ?_
  have Jf:=Uq @hs @ht
  repeat (first|apply Zp|apply Yb|refine Zy Hh (EY (EY Za (U3 Hh)) (Zco Hh)) Yi ?_)
  exact Zj
 ·cases e
end
theorem V3 {a b c e z:Nat} (F:Fine a b c e) (h1:2+e≤z) (h2:z<2+e+a * b):Og a b c e (z:Int)=true:=by
 obtain⟨g1,g2,g3,g4,g5,g6,g7,g8,g9,g10,g11⟩:=F
 unfold Og
 rw[decide_eq_true (by omega),Int.toNat_natCast]
 unfold Oa
 rw[if_neg (by omega),if_neg (by omega),if_neg (by omega),if_neg (by omega)]
 split
 ·rfl
 ·split
  ·rfl
  ·split<;>rfl
theorem Zfm (a b c e:Nat):Og a b c e ((1:Nat):Int)=true:=by
 unfold Og
 rw[decide_eq_true (by omega),Int.toNat_natCast]
 unfold Oa
 rw[if_neg (by omega),if_pos (by omega)]
 rfl
def Seen (lm:O3) (L:List (List C)):Prop:=∀ (z:Nat) (y:List C),Yx (z:Int) lm=some y→∃ x,L[z]? = some x∧y=x++[.bool false]
theorem Zmv (L:List (List C)):Seen [] L:=fun _ _ e=>by cases e
theorem Seen.upd {lm:O3} {L:List (List C)} (s:Seen lm L) {z:Nat} {x:List C} (hx:L[z]? = some x):Seen (Gy (z:Int) (x++[.bool false]) lm) L:=fun z' y e=>by
 rw[Fs] at e
 by_cases q:((z':Int)=z)
 ·obtain rfl:z'=z:=by omega
  rw[if_pos rfl] at e
  cases e
  exact⟨x,hx,rfl⟩
 ·rw[if_neg q] at e
  exact s z' y e
def At (lc:O3) (L:List (List C)) (z:Nat) (x:List C):Prop:=Yx (z:Int) lc=some x∨Yx (z:Int) lc=none∧L[z]? = some x
def stG (n q:Nat) (kn:Bool):Stt:=⟨n+12,n+20,q,q+1,.snil,kn⟩
def Off (n q m:Nat):Prop:=m≠n+6∧m≠n+13∧m≠n+15∧m≠n+17∧m≠q+2
def Zqi (lt:O3):Prop:=∀ z y,Yx z lt=some y→y=[]
theorem Zqi.upd {lt:O3} (v:Zqi lt) (z:Int):Zqi (Gy z [] lt):=fun z' y e=>by
 rw[Fs] at e
 split at e
 ·cases e; rfl
 ·exact v z' y e
theorem At.upd {lc:O3} {L:List (List C)} {z z2:Nat} {x y:List C} (h:At lc L z2 y) (ne:z2≠z):At (Gy (z:Int) x lc) L z2 y:=by
 unfold At at h ⊢
 rw[Fs,if_neg (by omega)]
 exact h
theorem At.put (lc:O3) (L:List (List C)) (z:Nat) (x:List C):At (Gy (z:Int) x lc) L z x:=by
 unfold At
 rw[Fs,if_pos rfl]
 exact .inl rfl
end Go.Proofs.YtdmendgkbikkaaaGreatDoor
