/- geo of a geometry that may be, as the walks ask it: data, groups' starts, inodes. -/
import Derived.Test.YteiljiijagmonaaGreatDoorBeg3
import Derived.Test.YteiljiijagmonaaGreatDoorSfo
set_option maxRecDepth 100000
set_option maxHeartbeats 4000000
set_option linter.unusedSimpArgs false
set_option linter.unusedVariables false
set_option linter.unusedSectionVars false
namespace Go.Proofs.YteiljiijagmonaaGreatDoor
open Go.Ev
noncomputable section
def Zrf (a b c d:Int) (k:Nat->Nat->Nat->Nat->Option (V × Hq)):Option (V × Hq):=(U8 a).bind fun a=>(U8 b).bind fun b=>(U8 c).bind fun c=>(U8 d).bind fun d=>Yt (Y1 a b c d) (k a b c d)
theorem Tk {a b c d:Int} {k:Nat->Nat->Nat->Nat->Option (V × Hq)} {r:V × Hq} (e:Zrf a b c d k=some r):∃ a' b' c' d':Nat,a=a'/\b=b'/\c=c'/\d=d'/\Y1 a' b' c' d'=true/\k a' b' c' d'=some r:=by
 obtain⟨a',ha,e⟩:=Zj e
 obtain⟨b',hb,e⟩:=Zj e
 obtain⟨c',hc,e⟩:=Zj e
 obtain⟨d',hd,e⟩:=Zj e
 obtain⟨f,e⟩:=Zq.1 e
 exact⟨a',b',c',d',Yd ha,Yd hb,Yd hc,Yd hd,f,e⟩
def Zts:Kn1:=fun args h=>match args with
 | [.g [.int .i64 a,.int .i64 b,.int .i64 c,.int .i64 d]]=>Zrf a b c d fun _ b c _=>some (.w (.c (.int .i64 ((b - 2 - c / 4:Nat):Int))),h)
 | _=>none
def Zny:Kn1:=fun args h=>match args with
 | [.g [.int .i64 a,.int .i64 b,.int .i64 c,.int .i64 d],.c (.int .i64 k)]=>Zrf a b c d fun a b _ d=>(U8 k).bind fun k=>Yt (decide (k<a)) (some (.tup [.c (.int .i64 ((2+d+k * b:Nat):Int)),.c (.bool true)],h))
 | _=>none
attribute [go_sem] Zrf Zts Zny
section
variable (Hh:Hearts K Tryz.prog)
include Hh
theorem Zxv {args:List W} {h h':Hq} {v:V} (e:Zts args h=some (v,h')):Zi 160 args h v h':=by
 unfold Zts at e
 split at e
 ·obtain⟨a,b,c,d,rfl,rfl,rfl,rfl,f,e⟩:=Tk e
  obtain⟨g1,g2,g3,g4,g5,g6,g7,g8,g9,g10,g11⟩:=Ya f
  cases e
  have q1:R6 .i64 (c:Int) 4=some (.int .i64 ((c / 4:Nat):Int)):=Nj (b:=4) oM oM
  have e2:(b:Int) - 2=((b - 2:Nat):Int):=oM
  have e3:((b - 2:Nat):Int) - ((c / 4:Nat):Int)=((b - 2 - c / 4:Nat):Int):=oM
  refine X0 rfl ?_
  refine Y0 Hh Tryz.f160 ?_
  have Jf:=Um @f @q1 @e2 @e3
  repeat (first|apply Zu|apply Ye|apply Yc|refine Goes.Zl Zab ?_|refine Zr Hh (EY Za (Br Hh)) Zab ?_)
  exact⟨_,_,Zf,rfl,fun m hm=>by exact Jg⟩
 ·cases e
theorem Ro {args:List W} {h h':Hq} {v:V} (e:Zny args h=some (v,h')):Zi 138 args h v h':=by
 unfold Zny at e
 split at e
 ·obtain⟨a,b,c,d,rfl,rfl,rfl,rfl,f,e⟩:=Tk e
  obtain⟨g1,g2,g3,g4,g5,g6,g7,g8,g9,g10,g11⟩:=Ya f
  obtain⟨k,hk,e⟩:=Zj e
  obtain⟨bk,e⟩:=Zq.1 e
  have kl:=of_decide_eq_true bk
  cases e
  rw[Yd hk]
  have b1:k * b<=a * b:=Nat.mul_le_mul oM oM
  have gi:(k:Int) * (b:Int)=((k * b:Nat):Int):=rfl
  refine X0 rfl ?_
  refine Y0 Hh Tryz.f138 ?_
  have Jf:=Jl @f @gi
  repeat (first|apply Zu|apply Ye|apply Yc|refine Goes.Zl Zab ?_|refine Zr Hh (EY Za (Br Hh)) Zab ?_)
  exact⟨_,_,Zf,rfl,fun m hm=>by exact Jg⟩
 ·cases e
end
theorem rs52:Tryz.f52.results.toList=[.cell 2 52]:=rfl
theorem rs70:Tryz.f70.results.toList=[.tmp 2]:=rfl
theorem rs71:Tryz.f71.results.toList=[.tmp 2]:=rfl
attribute [go_sem] rs52 rs70 rs71
def Z1y:Kn1:=fun args h=>match args with
 | [.c (.ptr s 0)]=>(Da h s).bind fun S=>(Mj h S.gd).bind fun G=>some (.w (.g (Jr G.gr G.sz G.ino G.jr)),h)
 | _=>none
def Ztc:Kn1:=fun args h=>match args with
 | [.c (.ptr s 0)]=>(Da h s).bind fun _=>some (.w (.c (.bool false)),h)
 | _=>none
def Z11:Kn1:=fun args h=>match args with
 | [.c (.ptr s 0)]=>(Da h s).bind fun S=>(Uf h S.tx).bind fun X=>some (.w (.c (.bool X.op)),h)
 | _=>none
attribute [go_sem] Z1y Ztc Z11
section
variable (Hh:Hearts K Tryz.prog)
include Hh
theorem G7 {args:List W} {h h':Hq} {v:V} (e:Z1y args h=some (v,h')):Zi 52 args h v h':=by
 unfold Z1y at e
 split at e
 ·rename_i s
  obtain⟨S,hs,e⟩:=Zj e
  have hs:=Y8 hs
  obtain⟨G,hg,e⟩:=Zj e
  obtain⟨hg,fb⟩:=Uz hg
  cases e
  refine Zy.tidy ⟨Tryz.f52,Tryz.func52,kR,by decide⟩ fun tidy=>?_
  have l1:=tidy _ _ hs
  have l2:=tidy _ _ hg
  have gl4:Zk 9 [gdL G] 0 4=some (Jr G.gr G.sz G.ino G.jr):=rfl
  have gl5:∀ x:List C,x.length<=4/\4<=x.length->Z5 4 [x] 0 (Jr G.gr G.sz G.ino G.jr)=some [Jr G.gr G.sz G.ino G.jr]:=fun x hx=>Q8 ⟨Nat.le_refl 4,Nat.le_refl 4,hx.1,hx.2,oM⟩
  have gl6:Zk 4 [Jr G.gr G.sz G.ino G.jr] 0 4=some (Jr G.gr G.sz G.ino G.jr):=rfl
  obtain⟨v,h',c,rfl,hk⟩:∃ v h',Zi 52 [.c (.ptr s 0)] h v h'/\v=.w (.g (Jr G.gr G.sz G.ino G.jr))/\∀ m,m<h.next->h'.get m=h.get m:=by
   refine Y0 Hh Tryz.f52 ?_
   have Jf:=Ej @hs @hg @gl4 @gl5 @gl6
   repeat (first|apply Zu|apply Ye|apply Yc|refine Goes.Zl O3 ?_|refine Zr Hh (EY Za (Oa Hh)) O3 ?_)
   exact⟨_,_,(by have Jf:=@gl6; exact Z0),rfl,fun m hm=>by exact Jg⟩
  exact c.quiet rfl hk
 ·cases e
theorem Zlj {args:List W} {h h':Hq} {v:V} (e:Ztc args h=some (v,h')):Zi 70 args h v h':=by
 unfold Ztc at e
 split at e
 ·rename_i s
  obtain⟨S,hs,e⟩:=Zj e
  have hs:=Y8 hs
  cases e
  refine fnG Hh Tryz.f70 ?_
  have Jf:=@hs
  repeat (first|apply Zu|apply Yc|refine Zr Hh (EY Za (Oa Hh)) Z6 ?_)
  exact Zf
 ·cases e
theorem Zqp {args:List W} {h h':Hq} {v:V} (e:Z11 args h=some (v,h')):Zi 71 args h v h':=by
 unfold Z11 at e
 split at e
 ·rename_i s
  obtain⟨S,hs,e⟩:=Zj e
  have hs:=Y8 hs
  obtain⟨X,ht,e⟩:=Zj e
  have ht:=Yk ht
  cases e
  refine fnG Hh Tryz.f71 ?_
  have Jf:=Jl @hs @ht
  repeat (first|apply Zu|apply Yc|refine Zr Hh (EY (EY Za (Oa Hh)) (Za8 Hh)) Z6 ?_)
  exact Zf
 ·cases e
end
theorem F7 {a b c e z:Nat} (F:Fine a b c e) (h1:2+e<=z) (h2:z<2+e+a * b):Uu a b c e (z:Int)=true:=by
 obtain⟨g1,g2,g3,g4,g5,g6,g7,g8,g9,g10,g11⟩:=F
 unfold Uu
 rw[decide_eq_true oM,Int.toNat_natCast]
 unfold Oo
 rw[if_neg oM,if_neg oM,if_neg oM,if_neg oM]
 split
 ·rfl
 ·split
  ·rfl
  ·split<;>rfl
theorem Zc5 (a b c e:Nat):Uu a b c e ((1:Nat):Int)=true:=by
 unfold Uu
 rw[decide_eq_true oM,Int.toNat_natCast]
 unfold Oo
 rw[if_neg oM,if_pos oM]
 rfl
def Seen (lm:Ut) (L:List (List C)):Prop:=∀ (z:Nat) (y:List C),Ym (z:Int) lm=some y->∃ x,L[z]? = some x/\y=x++[.bool false]
theorem Z0u (L:List (List C)):Seen [] L:=fun _ _ e=>by cases e
theorem Seen.upd {lm:Ut} {L:List (List C)} (s:Seen lm L) {z:Nat} {x:List C} (hx:L[z]? = some x):Seen (Ol (z:Int) (x++[.bool false]) lm) L:=fun z' y e=>by
 rw[Eo] at e
 by_cases q:((z':Int)=z)
 ·obtain rfl:z'=z:=oM
  rw[if_pos rfl] at e
  cases e
  exact⟨x,hx,rfl⟩
 ·rw[if_neg q] at e
  exact s z' y e
def At (lc:Ut) (L:List (List C)) (z:Nat) (x:List C):Prop:=Ym (z:Int) lc=some x\/Ym (z:Int) lc=none/\L[z]? = some x
def stG (n q:Nat) (kn:Bool):Stt:=⟨n+12,n+20,q,q+1,.snil,kn⟩
def Off (n q m:Nat):Prop:=m≠n+6/\m≠n+13/\m≠n+15/\m≠n+17/\m≠q+2
def Ztv (lt:Ut):Prop:=∀ z y,Ym z lt=some y->y=[]
theorem Ztv.upd {lt:Ut} (v:Ztv lt) (z:Int):Ztv (Ol z [] lt):=fun z' y e=>by
 rw[Eo] at e
 split at e
 ·cases e; rfl
 ·exact v z' y e
theorem At.upd {lc:Ut} {L:List (List C)} {z z2:Nat} {x y:List C} (h:At lc L z2 y) (ne:z2≠z):At (Ol (z:Int) x lc) L z2 y:=by
 unfold At at h ⊢
 rw[Eo,if_neg oM]
 exact h
theorem At.put (lc:Ut) (L:List (List C)) (z:Nat) (x:List C):At (Ol (z:Int) x lc) L z x:=by
 unfold At
 rw[Eo,if_pos rfl]
 exact .inl rfl
def Z9v (n q:Nat) (lt lc:Ut) (h:Hq):Hq:=(((h.put (n+13) (.row 8 [stL (stG n q false)] false)).put (q+2) (.map (Y5 lt))).put (n+15) (.map (Y5 lc))).put (n+17) (.map [])
end
end Go.Proofs.YteiljiijagmonaaGreatDoor
