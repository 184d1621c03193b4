/- geo of a geometry that may be, as the walks ask it: data, groups' starts, inodes. -/
import Derived.Test.YtmanipmhebgdbaaGreatDoorSto4
set_option maxRecDepth 100000
set_option maxHeartbeats 4000000
set_option linter.unusedSimpArgs false
set_option linter.unusedVariables false
set_option linter.unusedSectionVars false
namespace Go.Proofs.YtmanipmhebgdbaaGreatDoor
open Go.Ev
noncomputable section
def Zgd (a b c d:Int) (k:Nat->Nat->Nat->Nat->Option (V × Hq)):Option (V × Hq):=(Ob a).bind fun a=>(Ob b).bind fun b=>(Ob c).bind fun c=>(Ob d).bind fun d=>Y5 (Yu a b c d) (k a b c d)
theorem Dt {a b c d:Int} {k:Nat->Nat->Nat->Nat->Option (V × Hq)} {r:V × Hq} (e:Zgd a b c d k=some r):∃ a' b' c' d':Nat,a=a'/\b=b'/\c=c'/\d=d'/\Yu a' b' c' d'=true/\k a' b' c' d'=some r:=by
 obtain⟨a',ha,e⟩:=Zk e
 obtain⟨b',hb,e⟩:=Zk e
 obtain⟨c',hc,e⟩:=Zk e
 obtain⟨d',hd,e⟩:=Zk e
 obtain⟨f,e⟩:=Zu.1 e
 exact⟨a',b',c',d',Yb ha,Yb hb,Yb hc,Yb hd,f,e⟩
def Zvc:Kn1:=fun args h=>match args with
 | [.g [.int .i64 a,.int .i64 b,.int .i64 c,.int .i64 d]]=>Zgd a b c d fun _ b c _=>some (.w (.c (.int .i64 ((b - 2 - c / 4:Nat):Int))),h)
 | _=>none
def Zo6:Kn1:=fun args h=>match args with
 | [.g [.int .i64 a,.int .i64 b,.int .i64 c,.int .i64 d],.c (.int .i64 k)]=>Zgd a b c d fun a b _ d=>(Ob k).bind fun k=>Y5 (decide (k<a)) (some (.tup [.c (.int .i64 ((2+d+k * b:Nat):Int)),.c (.bool true)],h))
 | _=>none
def Zj9:Kn1:=fun args h=>match args with
 | [.g [.int .i64 a,.int .i64 b,.int .i64 c,.int .i64 d]]=>Zgd a b c d fun a _ c _=>some (.w (.c (.int .i64 ((a * c:Nat):Int))),h)
 | _=>none
def Zka:Kn1:=fun args h=>match args with
 | [.g [.int .i64 a,.int .i64 b,.int .i64 c,.int .i64 d],.c (.int .i64 k),.c (.int .i64 i)]=>Zgd a b c d fun a _ c _=>(Ob k).bind fun k=>(Ob i).bind fun i=>Y5 (decide (k<a)&&decide (i<c)) (some (.w (.c (.int .i64 ((k * c+i+1:Nat):Int))),h))
 | _=>none
def Zvd:Kn1:=fun args h=>match args with
 | [.g [.int .i64 a,.int .i64 b,.int .i64 c,.int .i64 d],.c (.int .i64 z)]=>Zgd a b c d fun a _ c _=>bif decide (1<=z)&&decide (z<=((a * c:Nat):Int)) then some (.tup [.c (.int .i64 (((z.toNat - 1) / c:Nat):Int)),.c (.int .i64 (((z.toNat - 1) % c:Nat):Int)),.c (.bool true)],h) else some (.tup [.c (.int .i64 0),.c (.int .i64 0),.c (.bool false)],h)
 | _=>none
def Zo5:Kn1:=fun args h=>match args with
 | [.g [.int .i64 a,.int .i64 b,.int .i64 c,.int .i64 d],.c (.int .i64 z)]=>Zgd a b c d fun a b c d=>bif decide (1<=z)&&decide (z<=((a * c:Nat):Int)) then some (.tup [.c (.int .i64 ((2+d+(z.toNat - 1) / c * b+2+(z.toNat - 1) % c / 4:Nat):Int)),.c (.int .i64 (((z.toNat - 1) % c % 4 * 64:Nat):Int)),.c (.bool true)],h) else some (.tup [.c (.int .i64 0),.c (.int .i64 0),.c (.bool false)],h)
 | _=>none
attribute [go_sem] Zgd Zvc Zo6 Zj9 Zka Zvd Zo5
section
variable (Hh:Hearts K Tryz.prog)
include Hh
theorem Zzi {args:List W} {h h':Hq} {v:V} (e:Zvc args h=some (v,h')):Zb 267 args h v h':=by
 unfold Zvc at e
 split at e
 ·obtain⟨a,b,c,d,rfl,rfl,rfl,rfl,f,e⟩:=Dt e
  obtain⟨g1,g2,g3,g4,g5,g6,g7,g8,g9,g10,g11⟩:=Z5 f
  cases e
  have q1:Tt .i64 (c:Int) 4=some (.int .i64 ((c / 4:Nat):Int)):=Lj (b:=4) oM oM
  have e2:(b:Int) - 2=((b - 2:Nat):Int):=oM
  have e3:((b - 2:Nat):Int) - ((c / 4:Nat):Int)=((b - 2 - c / 4:Nat):Int):=oM
  refine Dx rfl ?_
  refine Ym Hh Tryz.f267 ?_
  have Jf:=J4 @f @q1 @e2 @e3
  repeat (first|apply Z6|apply Yx|apply Yc|refine Goes.Zi Oj ?_|refine Zn Hh (EY Za (Gi Hh)) Oj ?_)
  exact⟨_,_,Zd,rfl,fun m hm=>by exact Yn⟩
 ·cases e
theorem Ms {args:List W} {h h':Hq} {v:V} (e:Zo6 args h=some (v,h')):Zb 80 args h v h':=by
 unfold Zo6 at e
 split at e
 ·obtain⟨a,b,c,d,rfl,rfl,rfl,rfl,f,e⟩:=Dt e
  obtain⟨g1,g2,g3,g4,g5,g6,g7,g8,g9,g10,g11⟩:=Z5 f
  obtain⟨k,hk,e⟩:=Zk e
  obtain⟨bk,e⟩:=Zu.1 e
  have kl:=of_decide_eq_true bk
  cases e
  rw[Yb hk]
  have b1:k * b<=a * b:=Nat.mul_le_mul oM oM
  have gi:(k:Int) * (b:Int)=((k * b:Nat):Int):=rfl
  refine Dx rfl ?_
  refine Ym Hh Tryz.f80 ?_
  have Jf:=Y2 @f @gi
  repeat (first|apply Z6|apply Yx|apply Yc|refine Goes.Zi Oj ?_|refine Zn Hh (EY Za (Gi Hh)) Oj ?_)
  exact⟨_,_,Zd,rfl,fun m hm=>by exact Yn⟩
 ·cases e
theorem F9 {args:List W} {h h':Hq} {v:V} (e:Zj9 args h=some (v,h')):Zb 145 args h v h':=by
 unfold Zj9 at e
 split at e
 ·obtain⟨a,b,c,d,rfl,rfl,rfl,rfl,f,e⟩:=Dt e
  obtain⟨g1,g2,g3,g4,g5,g6,g7,g8,g9,g10,g11⟩:=Z5 f
  cases e
  have b1:a * c<=4 * 64:=Nat.mul_le_mul oM oM
  have gi:(a:Int) * (c:Int)=((a * c:Nat):Int):=rfl
  refine Dx rfl ?_
  refine Ym Hh Tryz.f145 ?_
  have Jf:=Y2 @f @gi
  repeat (first|apply Z6|apply Yx|apply Yc|refine Goes.Zi Oj ?_|refine Zn Hh (EY Za (Gi Hh)) Oj ?_)
  exact⟨_,_,Zd,rfl,fun m hm=>by exact Yn⟩
 ·cases e
theorem Zr5 {args:List W} {h h':Hq} {v:V} (e:Zka args h=some (v,h')):Zb 64 args h v h':=by
 unfold Zka at e
 split at e
 ·obtain⟨a,b,c,d,rfl,rfl,rfl,rfl,f,e⟩:=Dt e
  obtain⟨g1,g2,g3,g4,g5,g6,g7,g8,g9,g10,g11⟩:=Z5 f
  obtain⟨k,hk,e⟩:=Zk e
  obtain⟨i,hi,e⟩:=Zk e
  obtain⟨bk,e⟩:=Zu.1 e
  simp only[aQ,decide_eq_true_eq] at bk
  obtain⟨kl,il⟩:=bk
  cases e
  rw[Yb hk,Yb hi]
  have b1:k * c<=4 * 64:=Nat.mul_le_mul oM oM
  have gi:(k:Int) * (c:Int)=((k * c:Nat):Int):=rfl
  refine Dx rfl ?_
  refine Ym Hh Tryz.f64 ?_
  have Jf:=Y2 @f @gi
  repeat (first|apply Z6|apply Yx|apply Yc|refine Goes.Zi Oj ?_|refine Zn Hh (EY Za (Gi Hh)) Oj ?_)
  exact⟨_,_,Zd,rfl,fun m hm=>by exact Yn⟩
 ·cases e
theorem Mr {args:List W} {h h':Hq} {v:V} (e:Zvd args h=some (v,h')):Zb 70 args h v h':=by
 unfold Zvd at e
 split at e
 ·rename_i z
  obtain⟨a,b,c,d,rfl,rfl,rfl,rfl,f,e⟩:=Dt e
  obtain⟨g1,g2,g3,g4,g5,g6,g7,g8,g9,g10,g11⟩:=Z5 f
  have b1:a * c<=4 * 64:=Nat.mul_le_mul oM oM
  by_cases z1:1<=z
  ·by_cases z2:z<=((a * c:Nat):Int)
   ·rw[decide_eq_true z1,decide_eq_true z2] at e
    cases e
    obtain⟨j,hj⟩:=xzE (z.toNat - 1)
    obtain rfl:z=((j+1:Nat):Int):=oM
    rw[hj]
    have e1:((j+1:Nat):Int) - 1=(j:Int):=oM
    refine Dx rfl ?_
    refine Ym Hh Tryz.f70 ?_
    have Jf:=J4 @f @e1 @Lj @Et
    repeat (first|apply Z6|apply Yx|apply Yc|refine Goes.Zi Oj ?_|refine Zn Hh (EY Za (F9 Hh)) Oj ?_|refine Fe Hh (EY Za (F9 Hh)) Zhd ?_)
    exact⟨_,_,Zd,rfl,fun m hm=>by exact Yn⟩
   ·rw[decide_eq_true z1,decide_eq_false z2] at e
    cases e
    refine Dx rfl ?_
    refine Ym Hh Tryz.f70 ?_
    have Jf:=@f
    repeat (first|apply Z6|apply Yx|apply Yc|refine Goes.Zi Oj ?_|refine Zn Hh (EY Za (F9 Hh)) Oj ?_|refine Fe Hh (EY Za (F9 Hh)) Zhd ?_)
    exact⟨_,_,Zd,rfl,fun m hm=>by exact Yn⟩
  ·rw[decide_eq_false z1] at e
   cases e
   refine Dx rfl ?_
   refine Ym Hh Tryz.f70 ?_
   have Jf:=@f
   repeat (first|apply Z6|apply Yx|apply Yc|refine Goes.Zi Oj ?_|refine Zn Hh (EY Za (F9 Hh)) Oj ?_|refine Fe Hh (EY Za (F9 Hh)) Zhd ?_)
   exact⟨_,_,Zd,rfl,fun m hm=>by exact Yn⟩
 ·cases e
theorem Td {args:List W} {h h':Hq} {v:V} (e:Zo5 args h=some (v,h')):Zb 32 args h v h':=by
 unfold Zo5 at e
 split at e
 ·rename_i z
  obtain⟨a,b,c,d,rfl,rfl,rfl,rfl,f,e⟩:=Dt e
  obtain⟨g1,g2,g3,g4,g5,g6,g7,g8,g9,g10,g11⟩:=Z5 f
  have b0:a * c<=4 * 64:=Nat.mul_le_mul oM oM
  rcases bz:decide (1<=z)&&decide (z<=((a * c:Nat):Int)) with _|_
  ·rw[bz] at e
   cases e
   refine Dx rfl ?_
   refine Ym Hh Tryz.f32 ?_
   have Jf:=Y2 @f @bz
   repeat (first|apply Z6|apply Yx|apply Yc|refine Goes.Zi Oj ?_|refine Zn Hh (EY (EY Za (Mr Hh)) (Ms Hh)) Oj ?_)
   exact⟨_,_,Zd,rfl,fun m hm=>by exact Yn⟩
  rw[bz] at e
  simp only[aQ,decide_eq_true_eq] at bz
  obtain⟨z1,z2⟩:=bz
  cases e
  obtain⟨j,hj⟩:=xzE (z.toNat - 1)
  obtain rfl:z=((j+1:Nat):Int):=oM
  rw[hj]
  have hk0:j / c<a:=Nat.div_lt_of_lt_mul (by rw[Nat.mul_comm]; omega)
  have hm:j % c<c:=Nat.mod_lt _ oM
  have b1:j / c * b<=a * b:=Nat.mul_le_mul oM oM
  have hz:(((j+1:Nat):Int).toNat - 1)=j:=hj
  obtain⟨k,hk⟩:=xzE (j / c)
  obtain⟨r,hr⟩:=xzE (j % c)
  rw[hk] at hk0 b1
  rw[hr] at hm
  rw[hk,hr]
  have d1:decide (1<=((j+1:Nat):Int))=true:=decide_eq_true z1
  have d2:decide (((j+1:Nat):Int)<=((a * c:Nat):Int))=true:=decide_eq_true z2
  obtain⟨q,hq⟩:=xzE (k * b)
  rw[hq] at b1 ⊢
  refine Dx rfl ?_
  refine Ym Hh Tryz.f32 ?_
  have Jf:=Yp @f @d1 @d2 @hz @hk @hr @hq @Lj @Et
  repeat (first|apply Z6|apply Yx|apply Yc|refine Goes.Zi Oj ?_|refine Zn Hh (EY (EY Za (Mr Hh)) (Ms Hh)) Oj ?_)
  exact⟨_,_,Zd,rfl,fun m hm=>by exact Yn⟩
 ·cases e
end
theorem rs33:Tryz.f33.results.toList=[.cell 2 57]:=rfl
theorem rs137:Tryz.f137.results.toList=[.tmp 2]:=rfl
theorem rs138:Tryz.f138.results.toList=[.tmp 2]:=rfl
theorem rs31:Tryz.f31.results.toList=[.tmp 2]:=rfl
theorem rs59:Tryz.f59.results.toList=[.tmp 2]:=rfl
theorem rs62:Tryz.f62.results.toList=[.tmp 4]:=rfl
theorem rs61:Tryz.f61.results.toList=[.tmp 4]:=rfl
attribute [go_sem] rs33 rs137 rs138 rs31 rs59 rs62 rs61
def Z38:Kn1:=fun args h=>match args with
 | [.c (.ptr s 0)]=>(G6 h s).bind fun S=>(Eu h S.gd).bind fun G=>some (.w (.g (Jw G.gr G.sz G.ino G.jr)),h)
 | _=>none
def Zuy:Kn1:=fun args h=>match args with
 | [.c (.ptr s 0)]=>(G6 h s).bind fun _=>some (.w (.c (.bool false)),h)
 | _=>none
def Z4b:Kn1:=fun args h=>match args with
 | [.c (.ptr s 0)]=>(G6 h s).bind fun S=>(Ov h S.tx).bind fun X=>some (.w (.c (.bool X.op)),h)
 | _=>none
def Zug:Kn1:=fun args h=>match args with
 | [.c (.ptr s 0)]=>(G6 h s).bind fun S=>(Eu h S.gd).bind fun _=>some (.w (.c (.int .i64 0)),h)
 | _=>none
def Zuh:Kn1:=fun args h=>match args with
 | [.c (.ptr s 0)]=>(G6 h s).bind fun S=>(Eu h S.gd).bind fun _=>(Ov h S.tx).bind fun X=>Y5 X.op (some (.w (.c (.int .i64 0)),h))
 | _=>none
def Zjy:Kn1:=fun args h=>match args with
 | [.g [.int .i64 a,.int .i64 b,.int .i64 c,.int .i64 d],.c (.int .i64 k)]=>Zgd a b c d fun a b _ d=>(Ob k).bind fun k=>Y5 (decide (k<a)) (some (.w (.c (.int .i64 ((2+d+k * b+1:Nat):Int))),h))
 | _=>none
def Zos:Kn1:=fun args h=>match args with
 | [.g [a,b,c,d],.c z]=>some (.w (.c (.fn 140 [] [some (h.next,0),some (h.next+1,0)])),(h.new (.row 4 [[a,b,c,d]] false)).new (.row 1 [[z]] false))
 | _=>none
attribute [go_sem] Z38 Zuy Z4b Zug Zuh Zjy Zos
section
variable (Hh:Hearts K Tryz.prog)
include Hh
theorem J3 {args:List W} {h h':Hq} {v:V} (e:Z38 args h=some (v,h')):Zb 33 args h v h':=by
 unfold Z38 at e
 split at e
 ·rename_i s
  obtain⟨S,hs,e⟩:=Zk e
  have hs:=Y6 hs
  obtain⟨G,hg,e⟩:=Zk e
  obtain⟨hg,fb⟩:=Jp hg
  cases e
  refine Zx.tidy ⟨Tryz.f33,Tryz.func33,kR,by decide⟩ fun tidy=>?_
  have l1:=tidy _ _ hs
  have l2:=tidy _ _ hg
  have gl4:Zm 9 [gdL G] 0 4=some (Jw G.gr G.sz G.ino G.jr):=rfl
  have gl5:∀ x:List C,x.length<=4/\4<=x.length->Z0 4 [x] 0 (Jw G.gr G.sz G.ino G.jr)=some [Jw G.gr G.sz G.ino G.jr]:=fun x hx=>Tz ⟨Nat.le_refl 4,Nat.le_refl 4,hx.1,hx.2,oM⟩
  have gl6:Zm 4 [Jw G.gr G.sz G.ino G.jr] 0 4=some (Jw G.gr G.sz G.ino G.jr):=rfl
  obtain⟨v,h',c,rfl,hk⟩:∃ v h',Zb 33 [.c (.ptr s 0)] h v h'/\v=.w (.g (Jw G.gr G.sz G.ino G.jr))/\∀ m,m<h.next->h'.get m=h.get m:=by
   refine Ym Hh Tryz.f33 ?_
   have Jf:=Gq @hs @hg @gl4 @gl5 @gl6
   repeat (first|apply Z6|apply Yx|apply Yc|refine Goes.Zi Uq ?_|refine Zn Hh (EY Za (Ga Hh)) Uq ?_)
   exact⟨_,_,(by have Jf:=@gl6; exact Zt),rfl,fun m hm=>by exact Yn⟩
  exact c.quiet rfl hk
 ·cases e
theorem Zbi {args:List W} {h h':Hq} {v:V} (e:Zuy args h=some (v,h')):Zb 137 args h v h':=by
 unfold Zuy at e
 split at e
 ·rename_i s
  obtain⟨S,hs,e⟩:=Zk e
  have hs:=Y6 hs
  cases e
  refine fnG Hh Tryz.f137 ?_
  have Jf:=@hs
  repeat (first|apply Z6|apply Yc|refine Zn Hh (EY Za (Ga Hh)) Ye ?_)
  exact Zd
 ·cases e
theorem Zd4 {args:List W} {h h':Hq} {v:V} (e:Z4b args h=some (v,h')):Zb 138 args h v h':=by
 unfold Z4b at e
 split at e
 ·rename_i s
  obtain⟨S,hs,e⟩:=Zk e
  have hs:=Y6 hs
  obtain⟨X,ht,e⟩:=Zk e
  have ht:=Yw ht
  cases e
  refine fnG Hh Tryz.f138 ?_
  have Jf:=Y2 @hs @ht
  repeat (first|apply Z6|apply Yc|refine Zn Hh (EY (EY Za (Ga Hh)) (Zfm Hh)) Ye ?_)
  exact Zd
 ·cases e
theorem Zff {args:List W} {h h':Hq} {v:V} (e:Zug args h=some (v,h')):Zb 31 args h v h':=by
 unfold Zug at e
 split at e
 ·rename_i s
  obtain⟨S,hs,e⟩:=Zk e
  have hs:=Y6 hs
  obtain⟨G,hg,e⟩:=Zk e
  obtain⟨hg,fb⟩:=Jp hg
  cases e
  refine fnG Hh Tryz.f31 ?_
  repeat (first|apply Z6|apply Yx|apply Yc|((first|apply Goes.Zi|apply gO fits Hh (EY (EY Za (J3 Hh)) (Gi Hh))); · simp (maxSteps:=9^6) +decide (disch:=first|exact dZ|fail) only [go_sem,Zm,Zh,simprocAttr,hs,hg,gdL,fb,Jw]<;>rfl))
  exact Zd
 ·cases e
theorem Zmf {args:List W} {h h':Hq} {v:V} (e:Zuh args h=some (v,h')):Zb 59 args h v h':=by
 unfold Zuh at e
 split at e
 ·rename_i s
  obtain⟨S,hs,e⟩:=Zk e
  have hs:=Y6 hs
  obtain⟨G,hg,e⟩:=Zk e
  obtain⟨hg,fb⟩:=Jp hg
  obtain⟨X,ht,e⟩:=Zk e
  have ht:=Yw ht
  obtain⟨bo,e⟩:=Zu.1 e
  cases e
  refine fnG Hh Tryz.f59 ?_
  repeat (first|apply Z6|apply O9|apply Yx|apply Yc|((first|apply Goes.Zi|apply gO fits Hh (EY (EY (EY Za (Zff Hh)) (Zbi Hh)) (Zd4 Hh))); · simp (maxSteps:=9^6) +decide (disch:=first|exact dZ|fail) only [go_sem,Zm,Zh,simprocAttr,hs,ht,hg,gdL,fb,bo]<;>rfl))
  exact Zd
 ·cases e
theorem T9 {args:List W} {h h':Hq} {v:V} (e:Zjy args h=some (v,h')):Zb 62 args h v h':=by
 unfold Zjy at e
 split at e
 ·obtain⟨a,b,c,d,rfl,rfl,rfl,rfl,f,e⟩:=Dt e
  obtain⟨g1,g2,g3,g4,g5,g6,g7,g8,g9,g10,g11⟩:=Z5 f
  obtain⟨k,hk,e⟩:=Zk e
  obtain⟨bk,e⟩:=Zu.1 e
  have kl:=of_decide_eq_true bk
  cases e
  rw[Yb hk]
  have b1:k * b<=a * b:=Nat.mul_le_mul oM oM
  obtain⟨q,hq⟩:=xzE (k * b)
  have e1:((2+d+q:Nat):Int)+1=((2+d+q+1:Nat):Int):=rfl
  rw[hq] at b1 ⊢
  refine Dx rfl ?_
  refine Ym Hh Tryz.f62 ?_
  have Jf:=Jh @f @hq @e1
  repeat (first|apply Z6|apply Yc|refine Zn Hh (EY Za (Ms Hh)) Oj ?_)
  exact⟨_,_,Zd,rfl,fun m hm=>by exact Yn⟩
 ·cases e
theorem Zuf {args:List W} {h h':Hq} {v:V} (e:Zos args h=some (v,h')):Zb 61 args h v h':=by
 unfold Zos at e
 split at e
 ·cases e
  refine fnG Hh Tryz.f61 ?_
  repeat (first|apply Z6|apply Yc|refine Zn Hh Za Fq ?_)
  exact Zd
 ·cases e
end
theorem Df {a b c e z:Nat} (F:Fine a b c e) (h1:2+e<=z) (h2:z<2+e+a * b):Bp a b c e (z:Int)=true:=by
 obtain⟨g1,g2,g3,g4,g5,g6,g7,g8,g9,g10,g11⟩:=F
 unfold Bp
 rw[decide_eq_true oM,Int.toNat_natCast]
 unfold O8
 rw[if_neg oM,if_neg oM,if_neg oM,if_neg oM]
 split
 ·rfl
 ·split
  ·rfl
  ·split<;>rfl
theorem Xd (a b c e:Nat):Bp a b c e ((1:Nat):Int)=true:=by
 unfold Bp
 rw[decide_eq_true oM,Int.toNat_natCast]
 unfold O8
 rw[if_neg oM,if_pos oM]
 rfl
def Seen (lm:G9) (L:List (List C)):Prop:=∀ (z:Nat) (y:List C),Jd (z:Int) lm=some y->∃ x,L[z]? = some x/\y=x++[.bool false]
theorem Zre (L:List (List C)):Seen [] L:=fun _ _ e=>by cases e
theorem Seen.upd {lm:G9} {L:List (List C)} (s:Seen lm L) {z:Nat} {x:List C} (hx:L[z]? = some x):Seen (Dp (z:Int) (x++[.bool false]) lm) L:=fun z' y e=>by
 rw[Np] at e
 by_cases q:((z':Int)=z)
 ·obtain rfl:z'=z:=oM
  rw[if_pos rfl] at e
  cases e
  exact⟨x,hx,rfl⟩
 ·rw[if_neg q] at e
  exact s z' y e
def At (lc:G9) (L:List (List C)) (z:Nat) (x:List C):Prop:=Jd (z:Int) lc=some x\/Jd (z:Int) lc=none/\L[z]? = some x
def stG (n q:Nat) (kn:Bool):Stt:=⟨n+12,n+20,q,q+1,.snil,kn⟩
def Off (n q m:Nat):Prop:=m≠n+6/\m≠n+13/\m≠n+15/\m≠n+17/\m≠q+2
def Zvg (lt:G9):Prop:=∀ z y,Jd z lt=some y->y=[]
theorem Zvg.upd {lt:G9} (v:Zvg lt) (z:Int):Zvg (Dp z [] lt):=fun z' y e=>by
 rw[Np] at e
 split at e
 ·cases e; rfl
 ·exact v z' y e
theorem At.upd {lc:G9} {L:List (List C)} {z z2:Nat} {x y:List C} (h:At lc L z2 y) (ne:z2≠z):At (Dp (z:Int) x lc) L z2 y:=by
 unfold At at h ⊢
 rw[Np,if_neg oM]
 exact h
theorem At.put (lc:G9) (L:List (List C)) (z:Nat) (x:List C):At (Dp (z:Int) x lc) L z x:=by
 unfold At
 rw[Np,if_pos rfl]
 exact .inl rfl
open Go.Ev
noncomputable def q85 (p:Lq):Code:=piece p (J8 Tryz.f85)
theorem Z2l:q85 [1,0,1,2]=.loop (q85 [1,0,1,2,2]):=kR
noncomputable def q317 (p:Lq):Code:=piece p (J8 Tryz.f317)
theorem Zto:q317 [1,1,0,1,2]=.loop (q317 [1,1,0,1,2,2]):=kR
theorem Zdo:q317 [1,1,0,1,2,2,1,1,0,2,1,1]=.block 2 (q317 [1,1,0,1,2,2,1,1,0,2,1,1,2]):=kR
theorem Zcb:q317 [1,1,0,1,2,2,1,1,0,2,1,1,2]=.loop (q317 [1,1,0,1,2,2,1,1,0,2,1,1,2,2]):=kR
def Zl8:Lq:=[0,498536548,997073096,651767980,1994146192,1802195444,1303535960,1342533948,3988292384,4027552580,3604390888,3412177804,2607071920,2262029012,2685067896,3183342108]
def Zdx (j:Nat):Nat:=Zl8.getD j 0
def Bt:O:=.row 16 [Zl8.map fun (n:Nat)=>.int .u32 (n:Int)] true
def half (v:Nat):Nat:=Nat.xor (v / 16) (Zdx (Nat.land v 15))
def Z0j (v b:Nat):Nat:=half (half (Nat.xor v b))
def Zxj:Lq->Nat->Nat
 | [],v=>v
 | b :: l,v=>Zxj l (Z0j v b)
def Zpz:List (Lq)->Nat->Nat
 | [],v=>v
 | l :: ps,v=>Zpz ps (Zxj l v)
theorem Zjf (j:Nat):Zdx j<4294967296:=by
 unfold Zdx Zl8
 by_cases h:j<16
 ·have:∀ j:Fin 16,([0,498536548,997073096,651767980,1994146192,1802195444,1303535960,1342533948,3988292384,4027552580,3604390888,3412177804,2607071920,2262029012,2685067896,3183342108]:Lq).getD j.1 0<4294967296:=by decide
  exact this ⟨j,h⟩
 ·rw[List.getD_eq_getElem?_getD,lN (by show 16<=j; omega)]
  decide
theorem Zl9 (j:Nat) (h:j<16):read1 16 [Zl8.map fun (n:Nat)=>C.int .u32 (n:Int)] j=some (.int .u32 (Zdx j:Nat)):=by
 unfold read1
 rw[Nat.div_eq_of_lt h,Nat.mod_eq_of_lt h,List.getElem?_cons_zero]
 show (Zl8.map fun (n:Nat)=>C.int .u32 (n:Int))[j]? = _
 rw[List.getElem?_map,Zdx]
 have:j<Zl8.length:=h
 rw[List.getD_eq_getElem?_getD,lG this]
 rfl
theorem Znr {v:Nat} (h:v<4294967296):half v<4294967296:=Zo7 oM (Zjf _)
theorem Zvs {v b:Nat} (h:v<4294967296) (hb:b<256):Z0j v b<4294967296:=Znr (Znr (Zo7 h oM))
theorem Zm6:∀ {l:Lq} {v:Nat},v<4294967296->(∀ b∈l,b<256)->Zxj l v<4294967296
 | [],_,h,_=>h
 | b :: l,v,h,hb=>Zm6 (l:=l) (v:=Z0j v b) (Zvs h (hb b (by simp))) fun c hc=>hb c (by simp [hc])
theorem glob0 (ts:Zv):Bi K ts (.global 1)=some (.w (.c (.ptr 0 0))):=by
 show Zvv K 1=_
 kernel_rfl
theorem shr4 {v:Nat}:Zwf .u32 (v:Int) 4=some (.int .u32 ((v / 16:Nat):Int)):=by
 show some (C.int .u32 ((v:Int).fdiv 16))=_
 rw[show (v:Int).fdiv 16=((v / 16:Nat):Int) by rw[Int.fdiv_eq_ediv_of_nonneg _ oM]; rfl]
theorem and15 {v:Nat} (hv:v<4294967296):De .u32 Nat.land (v:Int) 15=.int .u32 (Nat.land v 15:Nat):=Zsj (b:=15) hv oM (Nat.lt_of_le_of_lt (Nat.and_le_right) oM)
theorem land15 (v:Nat):Nat.land v 15<16:=Nat.lt_of_le_of_lt (Nat.and_le_right) oM
section
variable (Hh:Hearts K Tryz.prog)
include Hh
theorem Yb4 (h:Hq) (n off len:Nat) (o:O) (ho:h.get n=some o) (hst:h.get 0=some Bt) (hlen:len<4294967296):∀ (l:Lq) (i v:Nat) (ts:Zv),i+l.length=len->(∀ j (b:Nat),l[j]? = some b->b<256/\Zh ti5 (off+(i+j)) (some o)=some (.c (.int .u8 (b:Int))))->v<4294967296->Zg ts 14=.w (.c (.slice n off len 1))->Zg ts 15=.w (.c (.int .i64 len))->Zg ts 3=.w (.c (.int .u32 v))->Zg ts 16=.w (.c (.int .i64 i)) ->
  Z9 42 none (q317 [1,1,0,1,2,2,1,1,0,2,1,1,2]) [] ts h fun x ds' ts' h'=>x=.exit 2/\ds'=[]/\h'=h/\Zg ts' 3=.w (.c (.int .u32 (Zxj l v)))/\Zg ts' 8=Zg ts 8/\Zg ts' 9=Zg ts 9/\Zg ts' 10=Zg ts 10:=by
 intro l
 induction l with
 | nil =>
  intro i v ts hi hl hv h14 h15 h3 h16
  have d1:decide ((i:Int)<(len:Int))=false:=decide_eq_false (by simp at hi; omega)
  iterate 6 (first|apply Z6|apply Ea|apply E9|((first|apply Goes.Zi|apply gO fits Hh Za); · simp (decide:=true) only [go_sem,Zy,H.get_put,H.Zp,Zh,Z8,reduceIte,Nat.reduceAdd,Nat.reduceMul,Z4,Ya,asC,Zo,Yy,Yo,h15,h16,d1]<;>rfl))
  refine⟨rfl,rfl,rfl,?_,?_,?_,?_⟩<;>simp (decide:=true) only [Zo,reduceIte,h3,Zxj]
 | cons b l ih =>
  intro i v ts hi hl hv h14 h15 h3 h16
  simp only[List.length_cons] at hi
  have d1:decide ((i:Int)<(len:Int))=true:=decide_eq_true oM
  have w1:Jm .i64 ((i:Int)+1)=.int .i64 ((i+1:Nat):Int):=by rw[wrap64 oM oM]; congr 1
  have b1:Nat.blt i len=true:=Gv oM
  obtain⟨hb,ld⟩:=hl 0 b rfl
  rw[Nat.add_zero] at ld
  have w2:Jm .u32 (b:Int)=.int .u32 (b:Int):=Zdz oM
  have x1:=Zfo hv (show b<4294967296 by omega)
  obtain⟨u,hu⟩:=xzE (Nat.xor v b)
  have hu':u<4294967296:=hu ▸ Zo7 hv oM
  rw[hu] at x1
  have s1:=@shr4 u
  have a1:=and15 hu'
  have b2:Nat.blt (Nat.land u 15) 16=true:=Gv (land15 u)
  have st1:Zh ti40 (Nat.land u 15) (some Bt)=some (.c (.int .u32 (Zdx (Nat.land u 15):Nat))):=by
   rw[Bt,Zh,Ybj,cond_false,Zl9 _ (land15 u)]
   rfl
  have x2:De .u32 Nat.xor ((u / 16:Nat):Int) ((Zdx (Nat.land u 15):Nat):Int)=.int .u32 (half u:Nat):=Zfo oM (Zjf _)
  obtain⟨t,ht⟩:=xzE (half u)
  have ht':t<4294967296:=ht ▸ Znr hu'
  rw[ht] at x2
  have s2:=@shr4 t
  have a2:=and15 ht'
  have b3:Nat.blt (Nat.land t 15) 16=true:=Gv (land15 t)
  have st2:Zh ti40 (Nat.land t 15) (some Bt)=some (.c (.int .u32 (Zdx (Nat.land t 15):Nat))):=by
   rw[Bt,Zh,Ybj,cond_false,Zl9 _ (land15 t)]
   rfl
  have x3:De .u32 Nat.xor ((t / 16:Nat):Int) ((Zdx (Nat.land t 15):Nat):Int)=.int .u32 (Z0j v b:Nat):=by
   rw[Z0j,hu,ht]
   exact Zfo oM (Zjf _)
  iterate 16 (first|apply Z6|apply Yx|apply O9|apply E9|((first|apply Goes.Zi|apply gO fits Hh Za); · simp (decide:=true) only [go_sem,Zy,H.get_put,H.Zp,Z8,reduceIte,Nat.reduceAdd,Nat.reduceMul,Z4,Ya,asC,Zo,Yy,Yo,h14,h15,h3,h16,d1,w1,w2,b1,ho,ld,x1,s1,a1,b2,hst,st1,x2,s2,a2,b3,st2,x3,Rt,Sy,Z8u,Zm7,Yb8,Zan,Yep,Z7v,Z9h,glob0,Nat.beq_refl,Nat.mul_one,Nat.zero_add]<;>rfl))
  show Z9 42 none (.loop (q317 [1,1,0,1,2,2,1,1,0,2,1,1,2,2])) _ _ _ _
  rw[<-Zcb]
  refine (ih (i+1) _ _ oM (fun j c hc=>?_) (Zvs hv hb) ?_ ?_ ?_ ?_).mono ?_
  ·have:=hl (j+1) c (by simpa using hc)
   rwa [show i+(j+1)=i+1+j by omega] at this
  ·exact tZ h14
  ·exact tZ h15
  ·exact tY
  ·exact tY
  ·rintro x ds' ts' h' ⟨e1,e2,e3,e4,e5,e6,e7⟩
   refine⟨e1,e2,e3,e4,?_,?_,?_⟩
   ·rw[e5]; simp (decide:=true) only [Zo,reduceIte]
   ·rw[e6]; simp (decide:=true) only [Zo,reduceIte]
   ·rw[e7]; simp (decide:=true) only [Zo,reduceIte]
def Holds (h:Hq) (c:C) (l:Lq):Prop:=∃ n off o,c=.slice n off l.length 1/\h.get n=some o/\l.length<4294967296/\∀ j (b:Nat),l[j]? = some b->b<256/\Zh ti5 (off+j) (some o)=some (.c (.int .u8 (b:Int)))
omit Hh in
theorem Holds.lt {h:Hq} {c:C} {l:Lq} (H:Holds h c l):∀ b∈l,b<256:=fun b hb=>by
 obtain⟨_,_,_,_,_,_,hl⟩:=H
 obtain⟨j,hj⟩:=List.getElem?_of_mem hb
 exact (hl j b hj).1
theorem Z9e (h:Hq) (n m:Nat) (cs:List C) (ro:Bool) (ho:h.get n=some (.row 1 (cs.map fun c=>[c]) ro)) (hst:h.get 0=some Bt) (hm:cs.length=m) (hm':m<4294967296):∀ (ps:List (Lq)) (i v:Nat) (ts:Zv),i+ps.length=m->(∀ (j:Nat) (l:Lq),ps[j]? = some l->∃ c,cs[i+j]? = some c/\Holds h c l)->v<4294967296->Zg ts 8=.w (.c (.slice n 0 m 1))->Zg ts 9=.w (.c (.int .i64 m))->Zg ts 3=.w (.c (.int .u32 v))->Zg ts 10=.w (.c (.int .i64 i)) ->
  Z9 42 none (q317 [1,1,0,1,2]) [] ts h fun x ds' ts' h'=>x=.exit 0/\ds'=[]/\h'=h/\Zg ts' 3=.w (.c (.int .u32 (Zpz ps v)))/\Zpz ps v<4294967296:=by
 intro ps
 induction ps with
 | nil =>
  intro i v ts hi hl hv h8 h9 h3 h10
  have d1:decide ((i:Int)<(m:Int))=false:=decide_eq_false (by simp at hi; omega)
  iterate 6 (first|apply Z6|apply Ea|apply E9|((first|apply Goes.Zi|apply gO fits Hh Za); · simp (decide:=true) only [go_sem,Zy,H.get_put,H.Zp,Zh,Z8,reduceIte,Nat.reduceAdd,Nat.reduceMul,Z4,Ya,asC,Zo,Yy,Yo,h9,h10,d1]<;>rfl))
  refine⟨rfl,rfl,rfl,?_,hv⟩
  simp (decide:=true) only [Zo,reduceIte,h3,Zpz]
 | cons l ps ih =>
  intro i v ts hi hl hv h8 h9 h3 h10
  simp only[List.length_cons] at hi
  have d1:decide ((i:Int)<(m:Int))=true:=decide_eq_true oM
  have b1:Nat.blt i m=true:=Gv oM
  obtain⟨c,hc,hold⟩:=hl 0 l rfl
  have hlt:=hold.lt
  obtain⟨a,off,o,rfl,hao,hll,hby⟩:=hold
  rw[Nat.add_zero] at hc
  have rd:read1 1 (cs.map fun c=>[c]) i=some (.slice a off l.length 1):=by
   unfold read1
   rw[Nat.div_one,Nat.mod_one,List.getElem?_map,hc]
   rfl
  have fl:Y4 K 73 (.c (.slice a off l.length 1))=true:=by unfold Y4; rw[Rt]; rfl
  iterate 12 (first|apply Z6|apply Yx|apply O9|apply E9|((first|apply Goes.Zi|apply gO fits Hh Za); · simp (decide:=true) only [go_sem,Zy,H.get_put,H.Zp,Zh,Z8,reduceIte,Nat.reduceAdd,Nat.reduceMul,Z4,Ya,asC,Zo,Yy,Yo,h8,h9,h3,h10,d1,b1,ho,rd,fl,Zrn,Z5p,Rt,Yau,Z81,Zr,Jl,cW,Nat.beq_refl,Nat.mul_one,Nat.zero_add]<;>rfl))
  show Z9 42 none (q317 [1,1,0,1,2,2,1,1,0,2,1,1]) _ _ _ _
  rw[Zdo]
  refine O9 ((Yb4 Hh h a off l.length o hao hst hll l 0 v _ oM ?_ hv ?_ ?_ ?_ ?_).mono ?_)
  ·intro j b hb
   rw[Nat.zero_add]
   exact hby j b hb
  ·exact tY
  ·exact tY
  ·exact tZ h3
  ·exact tX
  rintro x ds' ts' h' ⟨rfl,rfl,rfl,e3,e8,e9,e10⟩
  have f8:Zg ts' 8=.w (.c (.slice n 0 m 1)):=by rw[e8]; simp (decide:=true) only [Zo,reduceIte,h8]
  have f9:Zg ts' 9=.w (.c (.int .i64 m)):=by rw[e9]; simp (decide:=true) only [Zo,reduceIte,h9]
  have f10:Zg ts' 10=.w (.c (.int .i64 i)):=by rw[e10]; simp (decide:=true) only [Zo,reduceIte,h10]
  have w1:Jm .i64 ((i:Int)+1)=.int .i64 ((i+1:Nat):Int):=by rw[wrap64 oM oM]; congr 1
  (apply gO fits Hh Za; · simp (decide:=true) only [go_sem,Zy,H.get_put,H.Zp,Zh,Z8,reduceIte,Nat.reduceAdd,Nat.reduceMul,f10,w1]<;>rfl)
  show Z9 42 none (.loop (q317 [1,1,0,1,2,2])) _ _ _ _
  rw[<-Zto]
  refine ih (i+1) _ _ oM (fun j l' hj=>?_) (Zm6 hv hlt) ?_ ?_ ?_ ?_
  ·have:=hl (j+1) l' (by simpa using hj)
   rwa [show i+(j+1)=i+1+j by omega] at this
  ·exact tZ f8
  ·exact tZ f9
  ·exact tZ e3
  ·exact tY
theorem Yb5 (h:Hq) (n:Nat) (cs:List C) (ro:Bool) (ps:List (Lq)) (ho:h.get n=some (.row 1 (cs.map fun c=>[c]) ro)) (hst:h.get 0=some Bt) (hm:cs.length=ps.length) (hm':ps.length<4294967296) (hl:∀ (j:Nat) (l:Lq),ps[j]? = some l->∃ c,cs[j]? = some c/\Holds h c l) :
  Zb 317 [.c (.slice n 0 ps.length 1)] h (.w (.c (.int .u32 (Nat.xor 4294967295 (Zpz ps 4294967295):Nat)))) h:=by
 have e0:Zg (Ug 0 [.c (.slice n 0 ps.length 1)] .nil) 0=.w (.c (.slice n 0 ps.length 1)):=by rw[U2]; rfl
 refine Zx.goes fits Hh kR kR kR (show Tryz.f317.body=some (q317 []) by kernel_rfl) rfl ?_
 have e1:Tryz.f317.results.toList=[.tmp 2]:=rfl
 have fl:Y4 K 454 (.c (.slice n 0 ps.length 1))=true:=by unfold Y4; rw[Zrn]; rfl
 show Z9 42 none _ _ _ _ _
 iterate 8 (first|apply Z6|apply O9|(apply gO fits Hh Za; · simp (decide:=true) only [go_sem,Zy,H.get_put,H.Zp,Zh,Z8,reduceIte,Nat.reduceAdd,Nat.reduceMul,e0,fl,Zr,Jl]<;>rfl))
 show Z9 42 none (q317 [1,1,0,1,2]) _ _ _ _
 refine (Z9e Hh h n ps.length cs ro ho hst hm hm' ps 0 4294967295 _ oM ?_ oM ?_ ?_ ?_ ?_).mono ?_
 ·intro j l hj
  rw[Nat.zero_add]
  exact hl j l hj
 ·exact tY
 ·exact tY
 ·exact tX
 ·exact tX
 rintro x ds' ts' h' ⟨rfl,rfl,rfl,e3,hlt⟩
 have x1:De .u32 Nat.xor IntKind.u32.max (Zpz ps 4294967295:Nat)=.int .u32 (Nat.xor 4294967295 (Zpz ps 4294967295):Nat):=Zfo (a:=4294967295) oM hlt
 iterate 3 (first|apply Z6|apply Yc|(apply gO fits Hh Za; · simp (decide:=true) only [go_sem,Zy,H.get_put,H.Zp,Zh,Z8,reduceIte,Nat.reduceAdd,Nat.reduceMul,e3,x1]<;>rfl))
 simp (decide:=true) only [Er,Jg,finish,e1,Jb,evalW,Ya,asW,Zo,reduceIte,Ue]
def Zgb:Lq->Bool
 | []=>true
 | b :: l=>bif Nat.beq b 0 then Zgb l else false
theorem zero0 (h:Hq) (n off len:Nat) (o:O) (ho:h.get n=some o) (hlen:len<4294967296):∀ (l:Lq) (i:Nat) (ts:Zv),i+l.length=len->(∀ j (b:Nat),l[j]? = some b->b<256/\Zh ti5 (off+(i+j)) (some o)=some (.c (.int .u8 (b:Int))))->Zg ts 5=.w (.c (.slice n off len 1))->Zg ts 6=.w (.c (.int .i64 len))->Zg ts 7=.w (.c (.int .i64 i)) ->
  Z9 14 none (q85 [1,0,1,2]) [] ts h fun x ds' ts' h'=>ds'=[]/\h'=h/\(Zgb l=true/\x=.exit 0\/Zgb l=false/\x=.ret/\Zg ts' 2=.w (.c (.bool false))):=by
 intro l
 induction l with
 | nil =>
  intro i ts hi hl h5 h6 h7
  have d1:decide ((i:Int)<(len:Int))=false:=decide_eq_false (by simp at hi; omega)
  iterate 6 (first|apply Z6|apply Ea|apply E9|((first|apply Goes.Zi|apply gO fits Hh Za); · simp (decide:=true) only [go_sem,Zy,H.get_put,H.Zp,Zh,Z8,reduceIte,Nat.reduceAdd,Nat.reduceMul,Z4,Ya,asC,Zo,Yy,Yo,h6,h7,d1]<;>rfl))
  exact⟨rfl,rfl,.inl ⟨rfl,rfl⟩⟩
 | cons b l ih =>
  intro i ts hi hl h5 h6 h7
  simp only[List.length_cons] at hi
  have d1:decide ((i:Int)<(len:Int))=true:=decide_eq_true oM
  have w1:Jm .i64 ((i:Int)+1)=.int .i64 ((i+1:Nat):Int):=by rw[wrap64 oM oM]; congr 1
  have b1:Nat.blt i len=true:=Gv oM
  obtain⟨hb,ld⟩:=hl 0 b rfl
  rw[Nat.add_zero] at ld
  by_cases b0:b=0
  ·subst b0
   have z:(((0:Nat):Int) != 0)=false:=rfl
   iterate 15 (first|apply Z6|apply Yx|apply O9|apply E9|((first|apply Goes.Zi|apply gO fits Hh Za); · simp (decide:=true) only [go_sem,Zy,H.get_put,H.Zp,Z8,reduceIte,Nat.reduceAdd,Nat.reduceMul,Z4,Ya,asC,Zo,Yy,Yo,h5,h6,h7,d1,w1,b1,ho,ld,z,Rt,Sy,Zm7,Zan,Nat.beq_refl,Nat.mul_one]<;>rfl))
   show Z9 14 none (.loop (q85 [1,0,1,2,2])) _ _ _ _
   rw[<-Z2l]
   refine ih (i+1) _ oM (fun j c hc=>?_) ?_ ?_ ?_
   ·have:=hl (j+1) c (by simpa using hc)
    rwa [show i+(j+1)=i+1+j by omega] at this
   ·exact tZ h5
   ·exact tZ h6
   ·exact tY
  ·have z:((b:Int) != 0)=true:=by simpa using b0
   iterate 16 (first|apply Z6|apply Yx|apply O9|apply Yc|apply E9|((first|apply Goes.Zi|apply gO fits Hh Za); · simp (decide:=true) only [go_sem,Zy,H.get_put,H.Zp,Z8,reduceIte,Nat.reduceAdd,Nat.reduceMul,Z4,Ya,asC,Zo,Yy,Yo,h5,h6,h7,d1,w1,b1,ho,ld,z,Rt,Sy,Zm7,Zan,Nat.beq_refl,Nat.mul_one]<;>rfl))
   refine⟨rfl,rfl,.inr ⟨?_,rfl,?_⟩⟩
   ·have:Nat.beq b 0=false:=by
     cases e:Nat.beq b 0 with
     | false=>rfl
     | true=>exact absurd (bQ e) b0
    simp only[Zgb,this,cond_false]
   ·exact tY
theorem Ybi (h:Hq) (c:C) (l:Lq) (hold:Holds h c l):Zb 85 [.c c] h (.w (.c (.bool (Zgb l)))) h:=by
 obtain⟨n,off,o,rfl,ho,hlen,hl⟩:=hold
 have e0:Zg (Ug 0 [.c (.slice n off l.length 1)] .nil) 0=.w (.c (.slice n off l.length 1)):=by rw[U2]; rfl
 refine Zx.goes fits Hh kR kR kR (show Tryz.f85.body=some (q85 []) by kernel_rfl) rfl ?_
 have e1:Tryz.f85.results.toList=[.tmp 2]:=rfl
 have fl:Y4 K 73 (.c (.slice n off l.length 1))=true:=by unfold Y4; rw[Rt]; rfl
 show Z9 14 none _ _ _ _ _
 iterate 6 (first|apply Z6|apply O9|(apply gO fits Hh Za; · simp (decide:=true) only [go_sem,Zy,H.get_put,H.Zp,Zh,Z8,reduceIte,Nat.reduceAdd,Nat.reduceMul,e0,fl,Zr,Jl]<;>rfl))
 show Z9 14 none (q85 [1,0,1,2]) _ _ _ _
 refine (zero0 Hh h n off l.length o ho hlen l 0 _ oM ?_ ?_ ?_ ?_).mono ?_
 ·intro j b hb
  rw[Nat.zero_add]
  exact hl j b hb
 ·exact tY
 ·exact tY
 ·exact tX
 rintro x ds' ts' h' ⟨rfl,rfl,⟨hz,rfl⟩|⟨hz,rfl,h2⟩⟩
 ·rw[hz]
  iterate 3 (first|apply Z6|apply Yc|(apply gO fits Hh Za; · simp (decide:=true) only [go_sem,Zy,H.get_put,H.Zp,Zh,Z8,reduceIte,Nat.reduceAdd,Nat.reduceMul]<;>rfl))
  simp (decide:=true) only [Er,Jg,finish,e1,Jb,evalW,Ya,asW,Zo,reduceIte,Ue]
 ·rw[hz]
  show leave K Tryz.f85 (some (.at .ret [] ts' h'))=_
  simp (decide:=true) only [Er,Jg,finish,e1,Jb,evalW,Ya,asW,h2,Ue]
end
def Z5h (off len:Nat):Option O->Option (Lq)
 | some (.row sz els _)=>bif Nat.ble (off % sz+len) sz&&Nat.blt len 4294967296 then (match Zm sz els off len with
  | some l=>Oy l
  | none=>none) else none
 | _=>none
def Zvm (h:Hq):C->Option (Lq)
 | .slice n off len 1=>Z5h off len (h.get n)
 | _=>none
def Zpt:List (List C)->Option (List C)
 | []=>some []
 | [c] :: l=>match Zpt l with
  | some r=>some (c :: r)
  | none=>none
 | _=>none
def Zq4 (h:Hq):List C->Option (List (Lq))
 | []=>some []
 | c :: l=>match Zvm h c with
  | some b=>(match Zq4 h l with
   | some r=>some (b :: r)
   | none=>none)
  | none=>none
def M4:Option O->Bool
 | some (.row 16 [l] true)=>(match Jc l [.int .u32 0,.int .u32 498536548,.int .u32 997073096,.int .u32 651767980,.int .u32 1994146192,.int .u32 1802195444,.int .u32 1303535960,.int .u32 1342533948,.int .u32 3988292384,.int .u32 4027552580,.int .u32 3604390888,.int .u32 3412177804,.int .u32 2607071920,.int .u32 2262029012,.int .u32 2685067896,.int .u32 3183342108] with
  | some true=>true
  | _=>false)
 | _=>false
theorem Zlb:∀ {a b:List C},Jc a b=some true->a=b
 | [],[],_=>rfl
 | .int k x :: a,.int k' y :: b,h=>by
  simp only[Jc] at h
  split at h
  ·rename_i hk
   subst hk
   cases hxy:(x == y) with
   | false=>rw[hxy] at h; cases h
   | true =>
    rw[hxy] at h
    have:x=y:=by simpa using hxy
    rw[this,Zlb h]
  ·cases h
 | [],_ :: _,h=>by simp [Jc] at h
 | .int _ _ :: _,[],h=>by simp [Jc] at h
 | .bool _ :: _,_,h=>by simp [Jc] at h
 | .str _ :: _,_,h=>by simp [Jc] at h
 | .ptr _ _ :: _,_,h=>by simp [Jc] at h
 | .pnil :: _,_,h=>by simp [Jc] at h
 | .slice _ _ _ _ :: _,_,h=>by simp [Jc] at h
 | .snil :: _,_,h=>by simp [Jc] at h
 | .map _ :: _,_,h=>by simp [Jc] at h
 | .mnil :: _,_,h=>by simp [Jc] at h
 | .fn _ _ _ :: _,_,h=>by simp [Jc] at h
 | .yield _ :: _,_,h=>by simp [Jc] at h
 | .nilFn :: _,_,h=>by simp [Jc] at h
 | .int _ _ :: _,.bool _ :: _,h=>by simp [Jc] at h
 | .int _ _ :: _,.str _ :: _,h=>by simp [Jc] at h
 | .int _ _ :: _,.ptr _ _ :: _,h=>by simp [Jc] at h
 | .int _ _ :: _,.pnil :: _,h=>by simp [Jc] at h
 | .int _ _ :: _,.slice _ _ _ _ :: _,h=>by simp [Jc] at h
 | .int _ _ :: _,.snil :: _,h=>by simp [Jc] at h
 | .int _ _ :: _,.map _ :: _,h=>by simp [Jc] at h
 | .int _ _ :: _,.mnil :: _,h=>by simp [Jc] at h
 | .int _ _ :: _,.fn _ _ _ :: _,h=>by simp [Jc] at h
 | .int _ _ :: _,.yield _ :: _,h=>by simp [Jc] at h
 | .int _ _ :: _,.nilFn :: _,h=>by simp [Jc] at h
theorem Md {o:Option O} (h:M4 o=true):o=some Bt:=by
 unfold M4 at h
 split at h
 ·rename_i l
  split at h
  ·rename_i e
   rw[Zlb e]
   rfl
  ·cases h
 ·cases h
def Ydx (h:Hq):Option (List (Lq))->Option (V × Hq)
 | some ps=>bif Nat.blt ps.length 4294967296 then some (.w (.c (.int .u32 (Nat.xor 4294967295 (Zpz ps 4294967295):Nat))),h) else none
 | none=>none
def Ydv (h:Hq):Option (List C)->Option (V × Hq)
 | some cs=>Ydx h (Zq4 h cs)
 | none=>none
def Ydw (h:Hq) (len:Nat):Option O->Option (V × Hq)
 | some (.row 1 els _)=>bif Nat.beq els.length len&&M4 (h.get 0) then Ydv h (Zpt els) else none
 | _=>none
def Yey (args:List W) (h:Hq):Option (V × Hq):=match args with
 | [.c (.slice n 0 len 1)]=>Ydw h len (h.get n)
 | _=>none
def zeroV (h:Hq):Option (Lq)->Option (V × Hq)
 | some l=>some (.w (.c (.bool (Zgb l))),h)
 | none=>none
def Ydq (args:List W) (h:Hq):Option (V × Hq):=match args with
 | [.c c]=>zeroV h (Zvm h c)
 | _=>none
section
variable (Hh:Hearts K Tryz.prog)
include Hh
end
end
end Go.Proofs.YtmanipmhebgdbaaGreatDoor
