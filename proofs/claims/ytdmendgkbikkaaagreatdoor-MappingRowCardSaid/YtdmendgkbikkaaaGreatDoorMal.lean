/- mapping.hanging: all blocks that hang on an inode, told one by one. -/
import Derived.Test.YtdmendgkbikkaaaGreatDoorMpg
import Derived.Test.YtdmendgkbikkaaaGreatDoorMra
import Derived.Test.YtdmendgkbikkaaaGreatDoorEvC
import Derived.Test.YtdmendgkbikkaaaGreatDoorSli
set_option linter.unusedSimpArgs false
set_option linter.unusedVariables false
set_option linter.unusedSectionVars false
set_option maxRecDepth 100000
set_option maxHeartbeats 4000000
namespace Go.Proofs.YtdmendgkbikkaaaGreatDoor
open Go.Ev
theorem ty137:K.types.get 137=some ti137:=by kernel_rfl
theorem sz137:ti137.size=1:=by rfl
theorem ag137:ti137.agg=false:=by rfl
theorem ty138:K.types.get 138=some ti138:=by kernel_rfl
theorem sz138:ti138.size=1:=by rfl
theorem ag138:ti138.agg=false:=by rfl
attribute [go_sem] ty137 sz137 ag137 ty138 sz138 ag138
noncomputable def q59 (p:List Nat):Code:=piece p (Ut Tryz.f59)
noncomputable def q60 (p:List Nat):Code:=piece p (Ut Tryz.f60)
theorem rs35:Tryz.f35.results.toList=[.tmp 2]:=rfl
theorem rs20:Tryz.f20.results.toList=[.tmp 4]:=rfl
theorem rs59:Tryz.f59.results.toList=[]:=rfl
theorem rs60:Tryz.f60.results.toList=[.tmp 7]:=rfl
attribute [go_sem] rs35 rs20 rs59 rs60
noncomputable def Zpo:Kn1:=fun args h=>match args with
 | [.c (.int .i64 p)]=>Yp (decide (0≤p)&&decide (p<11)) (some (.w (.c (.int .i64 (if p<8 then 0 else p - 7))),h))
 | _=>none
noncomputable def Zx0:Kn1:=fun args h=>match args with
 | [.c s,.g x]=>Yp (Nat.beq x.length 16) (some (.w (.c (.fn 59 [] [some (h.next,0),some (h.next+1,0)])),(h.new (.row 1 [[s]] false)).new (.row 16 [x] false)))
 | _=>none
theorem Zg1 (c:C):read1 1 [[c]] 0=some c:=rfl
def Zky (o:O):Prop:=∀ X,o≠.row 1 (rwI X) false
def Kh (n p6:Nat) (h h':Go.Ev.H):Prop:=h.next≤h'.next∧∀ m o,m<h.next→m≠n+6→m≠p6→h.get m=some o→(m<p6∨Zky o)→h'.get m=some o
theorem Kh.refl (n p6:Nat) (h:Go.Ev.H):Kh n p6 h h:=⟨Nat.le_refl _,fun _ _ _ _ _ e _=>e⟩
theorem Kh.then {n p6:Nat} {h h1 h2:Go.Ev.H} (k:Kh n p6 h h1) (k2:Kh n p6 h1 h2):Kh n p6 h h2:=⟨Nat.le_trans k.1 k2.1,fun m o a b c e w=>k2.2 m o (Nat.lt_of_lt_of_le a k.1) b c (k.2 m o a b c e w) w⟩
theorem Kh.of {n p6:Nat} {h h':Go.Ev.H} (hx:h.next≤h'.next) (k:∀ m,m<h.next→m≠n+6→h'.get m=h.get m):Kh n p6 h h':=⟨hx,fun m o a b _ e _=>(k m a b).trans e⟩
theorem Z0p {sz:Nat} {L:List (List C)} {ro:Bool} (h:sz≠1):Zky (.row sz L ro):=fun X e=>h (O.row.inj e).1
theorem Zfe {c:C} (h:∀ z,c≠.int .i64 z):Zky (.row 1 [[c]] false):=fun X e=>by
 have e2:[[c]]=rwI X:=(O.row.inj e).2.1
 cases X with
 | nil=>cases e2
 | cons x l =>
  have:[c]=[C.int .i64 (x:Int)]:=(List.cons.inj e2).1
  exact h _ (List.cons.inj this).1
theorem Zs0 {ts:Zw} {n:Nat} {ps:List Nat} {a b:Go.Code} {st:LoopState} {p:Option Go.Code} {d:Nat}:Zky (.loop ts n ps a b st p d):=fun X e=>by cases e
def Tu (a b c e:Nat) (V:Nat→List Nat):Nat→Nat→Prop
 | 0,_=>True
 | k+1,z=>z≠0→Og a b c e (z:Int)=true∧z<2+e+a * b∧∀ w,w<64→Tu a b c e V k (Y5 (V z) (4 * w))
section
variable (Hh:Hearts K Tryz.prog)
include Hh
theorem Zty {args:List W} {h h':Go.Ev.H} {v:V} (e:Zpo args h=some (v,h')):Zg 35 args h v h':=by
 unfold Zpo at e
 split at e
 ·rename_i p
  obtain⟨b,e⟩:=Zr.1 e
  simp only[Bool.and_eq_true,decide_eq_true_eq] at b
  obtain⟨b1,b2⟩:=b
  cases e
  have d1:decide (p<0)=false:=decide_eq_false (by omega)
  have d2:decide (p > 10)=false:=decide_eq_false (by omega)
  by_cases q:p<8
  ·have d3:decide (p<8)=true:=decide_eq_true q
   rw[if_pos q]
   refine fnG Hh Tryz.f35 ?_
   have Jf:=Uc @d1 @d2 @d3
   iterate 5 (first|apply Zp|apply Yk|refine Zy Hh Za Zq ?_)
   refine Goes.ops2 fits Hh Za (by
    iterate 7 (refine Y9 Zq ?_)
    exact Y8) ?_
   iterate 7 (first|apply Zp|apply Yb|refine Goes.Zn Zq ?_|refine Zy Hh Za Zq ?_)
   exact Zj
  ·have d3:decide (p<8)=false:=decide_eq_false q
   have e1:p - 8+1=p - 7:=by omega
   rw[if_neg q]
   refine fnG Hh Tryz.f35 ?_
   have Jf:=Oz @d1 @d2 @d3 @e1
   iterate 5 (first|apply Zp|apply Yk|refine Zy Hh Za Zq ?_)
   refine Goes.ops2 fits Hh Za (by
    iterate 7 (refine Y9 Zq ?_)
    exact Y8) ?_
   iterate 8 (first|apply Zp|apply Z6|apply Yb|refine Goes.Zn Zq ?_|refine Zy Hh Za Zq ?_)
   exact Zq
 ·cases e
theorem Zx1 {args:List W} {h h':Go.Ev.H} {v:V} (e:Zx0 args h=some (v,h')):Zg 20 args h v h':=by
 unfold Zx0 at e
 split at e
 ·rename_i s x
  obtain⟨b,e⟩:=Zr.1 e
  have xl:=Nat.eq_of_beq_eq_true b
  cases e
  refine fnG Hh Tryz.f20 ?_
  repeat (first|apply Zp|apply Yb|((first|apply Goes.Zn|apply Goes.ops2 fits Hh Za); · simp (maxSteps:=9^6) +decide (disch:=first|omega|(simp only[lens]<;>omega)|decide) only [go_sem,Zm,Ze,simprocAttr,xl,Yr,Lc,Dj,ptrs]<;>rfl))
  exact Zj
 ·cases e
attribute [go_sem] Zpo Zx0
variable {n q a b c e:Nat} {cr:Cr} {md:Int} {S T:List Nat} {V:Nat→List Nat} {l py ps pt p6:Nat} {lp:O} {I:List Nat→Go.Ev.H→Prop}
def Zis (n q a b c e:Nat) (cr:Cr) (md:Int) (S T:List Nat) (V:Nat→List Nat) (l p6:Nat) (lp:O) (I:List Nat→Go.Ev.H→Prop):Prop:=∀ (L:List Nat) (z:Nat) (h:Go.Ev.H),L.length<2048→z<4294967296→I L h→HE n q a b c e cr md S T V h→h.get l=some lp→l<h.next→∃ E h',Sound K Tryz.prog E∧G9 E l (some [.c (.int .i64 (z:Int)),.c (.int .i64 0)]) h (some lp)=some (.val (.w (.c (.bool true))) h')∧I (L++[z]) h'∧HE n q a b c e cr md S T V h'∧h'.get l=some lp∧Kh n p6 h h'
structure TellB (n l py ps pt p6:Nat) (h:Go.Ev.H):Prop where
 gy:h.get py=some (.row 1 [[.yield l]] false)
 gs:h.get ps=some (.row 1 [[.ptr (n+13) 0]] false)
 gt:h.get pt=some (.row 1 [[.fn 60 [] [some (py,0),some (ps,0),some (pt,0)]]] false)
 ly:py<h.next
 ls:ps<h.next
 lt:pt<h.next
 ny:py≠n+6∧py≠p6
 ns:ps≠n+6∧ps≠p6
 nt:pt≠n+6∧pt≠p6
theorem TellB.keep {h h':Go.Ev.H} (B:TellB n l py ps pt p6 h) (k:Kh n p6 h h'):TellB n l py ps pt p6 h':=by
 obtain⟨gy,gs,gt,ly,ls,lt,ny,ns,nt⟩:=B
 have:=k.1
 exact⟨k.2 _ _ ly ny.1 ny.2 gy (.inr (Zfe fun z w=>by cases w)),k.2 _ _ ls ns.1 ns.2 gs (.inr (Zfe fun z w=>by cases w)),k.2 _ _ lt nt.1 nt.2 gt (.inr (Zfe fun z w=>by cases w)),by omega,by omega,by omega,ny,ns,nt⟩
def Vm (V:Nat→List Nat) (k z j:Nat):List Nat:=(List.range j).flatMap fun w=>Mh V k (Y5 (V z) (4 * w))
omit Hh in
theorem Zer (V:Nat→List Nat) (k z j:Nat):Vm V k z (j+1)=Vm V k z j++Mh V k (Y5 (V z) (4 * j)):=by
 unfold Vm
 rw[List.range_succ,List.flatMap_append]
 simp
omit Hh in
theorem Zsp (V:Nat→List Nat) (k z:Nat) {j m:Nat} (h:j≤m):(Vm V k z j).length≤(Vm V k z m).length:=by
 induction h with
 | refl=>exact Nat.le_refl _
 | step _ ih=>rw[Zer,List.length_append]; omega
def Znn (n q a b c e:Nat) (cr:Cr) (md:Int) (S T:List Nat) (V:Nat→List Nat) (l py ps pt p6:Nat) (lp:O) (I:List Nat→Go.Ev.H→Prop) (lv:Nat):Prop:=∀ (z:Nat) (L:List Nat) (h:Go.Ev.H),z<4294967296→Tu a b c e V lv z→(L++Mh V lv z).length≤2048→I L h→HE n q a b c e cr md S T V h→h.get l=some lp→l<h.next→TellB n l py ps pt p6 h→∃ h',Zg 60 [.c (.int .i64 (z:Int)),.c (.int .i64 (lv:Int)),.c (.ptr py 0),.c (.ptr ps 0),.c (.ptr pt 0)] h (.w (.c (.bool true))) h'∧I (L++Mh V lv z) h'∧HE n q a b c e cr md S T V h'∧h'.get l=some lp∧Kh n p6 h h'
theorem Zxj {k z pd:Nat} (k3:k≤3) (vl:(V z).length=256) (rec:Znn n q a b c e cr md S T V l py ps pt p6 lp I k) (tr:∀ w,w<64→Tu a b c e V k (Y5 (V z) (4 * w))) {L:List Nat} (len:(L++Vm V k z 64).length≤2048):∀ (r j:Nat) (ts:Zw) (h:Go.Ev.H),j+r=64→I (L++Vm V k z j) h→HE n q a b c e cr md S T V h→h.get l=some lp→l<h.next→TellB n l py ps pt p6 h→h.get pd=some (.row 256 [pgL (V z)] false)→pd<h.next→pd≠n+6∧pd≠p6 →
  Zi ts 1=.w (.c (.int .i64 ((k+1:Nat):Int)))→Zi ts 4=.w (.c (.ptr pt 0))→Zi ts 8=.w (.c (.ptr pd 0))→Zi ts 30=.w (.c (.int .i64 (j:Int))) →
  Ya 41 none (q60 [1,1,1,1,1,1,0,1,2]) [] ts h fun x ds' ts' h'=>x=.exit 0∧ds'=[]∧I (L++Vm V k z 64) h'∧HE n q a b c e cr md S T V h'∧h'.get l=some lp∧Kh n p6 h h':=by
 intro r
 induction r with
 | zero =>
  intro j ts h hj iI M hl ln B gd dl nd t1 t4 t8 t30
  obtain rfl:j=64:=by omega
  have Jf:=@t30
  iterate 6 (first|apply Zp|apply Oe|apply Yt|refine Goes.Zn Zq ?_|refine Zy Hh Za Zq ?_)
  exact⟨rfl,rfl,iI,M,hl,Kh.refl ..⟩
 | succ r ih =>
  intro j ts h hj iI M hl ln B gd dl nd t1 t4 t8 t30
  have j6:j<64:=by omega
  have B':=B
  obtain⟨gy,gs,gt,ly,ls,lt,ny,ns,nt⟩:=B'
  have cP:=Z0k Hh vl gd j6
  have fs:=Zer V k z j
  have fl:=Zsp V k z (show j+1≤64 by omega)
  obtain⟨h1,cT,i1,M1,hl1,k1⟩:=rec (Y5 (V z) (4 * j)) (L++Vm V k z j) h (Zq4 _ _) (tr j j6) (by rw[List.append_assoc,←fs,List.length_append]; rw[List.length_append] at len; omega) iI M hl ln B
  rw[List.append_assoc,←fs] at i1
  have bn:Nat.ble h.next h1.next=true:=Wn k1.1
  have dd:decide ((j:Int)<64)=true:=decide_eq_true (by omega)
  have e1:(((k+1:Nat):Int)) - 1=(k:Int):=by omega
  obtain⟨G,hG⟩:∃ G,Y5 (V z) (4 * j)=G:=⟨_,rfl⟩
  rw[hG] at cP cT
  have Jf:=Ur @t1 @t4 @t8 @t30 @dd @e1 @gt @Zg1 @bn
  iterate 11 (first|apply Zp|apply Z6|apply Yk|apply Yt|refine Goes.Zn Zdf ?_|refine Zy Hh Za Zdf ?_)
  iterate 4 (first|apply Z6|refine Goes.Zn Zdf ?_|refine Zy Hh (Zu (Zu Za cP) cT) Zdf ?_|refine Ms Hh (Zu (Zu Za cP) cT) Zuv ?_)
  show Ya 41 none (q60 [1,1,1,1,1,1,0,1,2]) _ _ _ _
  refine (ih (j+1) _ h1 (by omega) i1 M1 hl1 (by have:=k1.1; omega) (B.keep Hh k1) (k1.2 _ _ dl nd.1 nd.2 gd (.inr (Z0p (by decide)))) (by have:=k1.1; omega) nd ?_ ?_ ?_ ?_).mono ?_
  ·have Jf:=@t1; exact Zq
  ·have Jf:=@t4; exact Zq
  ·have Jf:=@t8; exact Zq
  ·exact Zj
  ·rintro x1 d1 s1 h2 ⟨q1,q2,q3,q4,q5,q6⟩
   exact⟨q1,q2,q3,q4,q5,k1.then q6⟩
theorem Z3y (f:Y2 a b c e=true) (ls:Zis n q a b c e cr md S T V l p6 lp I) (l6:l≠n+6) (p6q:p6≠n+6) (Ik:∀ L h h2,I L h→h.next≤h2.next→(∀ m,m<h.next→m≠n+6→h2.get m=h.get m)→I L h2) (p6b:∀ L h,I L h→p6<h.next):∀ lv,lv≤3→Znn n q a b c e cr md S T V l py ps pt p6 lp I lv:=by
 have zero:∀ (lv:Nat) (h:Go.Ev.H),Zg 60 [.c (.int .i64 ((0:Nat):Int)),.c (.int .i64 (lv:Int)),.c (.ptr py 0),.c (.ptr ps 0),.c (.ptr pt 0)] h (.w (.c (.bool true))) h:=fun lv h=>by
  refine fnG Hh Tryz.f60 ?_
  iterate 9 (first|apply Zp|apply Yb|refine Goes.Zn Zj ?_|refine Zy Hh Za Zj ?_)
  exact Zj
 intro lv
 induction lv with
 | zero =>
  intro _ z L h z32 _ len iI M hl ln B
  by_cases z0:z=0
  ·subst z0
   exact⟨h,zero 0 h,by rw[Dn,List.append_nil]; exact iI,M,hl,Kh.refl ..⟩
  have e0:((z:Int) == 0)=false:=Bl (by omega)
  have tz:Mh V 0 z=[z]:=if_neg z0
  rw[tz] at len ⊢
  obtain⟨E,h1,Sd,rnd,i1,M1,hl1,k1⟩:=ls L z h (by rw[List.length_append] at len; simp at len; omega) z32 iI M hl ln
  obtain⟨gy,gs,gt,ly,ls',lt,ny,ns,nt⟩:=B
  refine⟨h1,?_,i1,M1,hl1,k1⟩
  refine fnG Hh Tryz.f60 ?_
  have Jf:=Mt @e0 @gy @rnd @hl @Zg1
  iterate 9 (first|apply Zp|apply Z6|refine Goes.Zn Zq ?_|refine Zy Hh Za Zq ?_)
  iterate 10 (first|apply Zp|apply Z6|apply Yb|refine Goes.Zn Zq ?_|refine Zy Hh Sd Zq ?_)
  exact Zj
 | succ k ihk =>
  intro k3 z L h z32 tr len iI M hl ln B
  by_cases z0:z=0
  ·subst z0
   exact⟨h,zero (k+1) h,by rw[Dn,List.append_nil]; exact iI,M,hl,Kh.refl ..⟩
  have e0:((z:Int) == 0)=false:=Bl (by omega)
  have ek:(((k+1:Nat):Int) == 0)=false:=Bl (by omega)
  have tz:Mh V (k+1) z=[z]++Vm V k z 64:=by
   show (if z=0 then _ else _)=_
   rw[if_neg z0]
   rfl
  rw[tz,←List.append_assoc] at len ⊢
  obtain⟨oz,zl,tw⟩:=tr z0
  obtain⟨E,h1,Sd,rnd,i1,M1,hl1,k1⟩:=ls L z h (by rw[List.length_append,List.length_append] at len; simp at len; omega) z32 iI M hl ln
  have B1:=B.keep Hh k1
  have BB:=B1
  obtain⟨gy,gs,gt,ly,ls',lt,ny,ns,nt⟩:=B
  obtain⟨gy1,gs1,gt1,ly1,ls1,lt1,_,_,_⟩:=BB
  obtain⟨hG,eG,MG,nG,rG⟩:=M1.get f oz zl
  have c7:=F3 Hh eG
  have vl:=M1.len oz zl
  have Yl:(pgL (V z)).length=256:=by rw[Da,vl]
  obtain⟨Y,hY⟩:∃ Y,pgL (V z)=Y:=⟨_,rfl⟩
  rw[hY] at c7 Yl
  refine F5 ?_
  refine Jd Hh Tryz.f60 ?_
  have Jf:=Zd0 @e0 @ek @gy @rnd @hl @Zg1 @gs1 @Yl
  iterate 9 (first|apply Zp|apply Z6|refine Goes.Zn Z5 ?_|refine Zy Hh Za Z5 ?_)
  iterate 9 (first|apply Zp|apply Z6|refine Goes.Zn Z5 ?_|refine Zy Hh Sd Z5 ?_)
  iterate 3 (first|apply Zp|refine Zy Hh (Zu Za c7) Z5 ?_)
  refine Dc fun hA eA=>?_
  have nA:hA.next=h1.next+1:=by rw[eA]; simp only[H.Zf,H.Zc,nG]
  have kA:∀ m,m<h1.next→m≠n+6→hA.get m=h1.get m:=fun m hm hne=>by rw[eA]; refine Eq.trans ?_ (rG m hm hne); exact Jg
  have bA:hA.get h1.next=some (.row 256 [Y] false):=by rw[eA,←nG]; exact Z5
  have MA:=MG.keep (h2:=hA) (by omega) (fun m hm=>by have:=MG.nx; rw[eA]; exact Jg)
  clear eA
  have nB:=k1.1
  have kkA:Kh n p6 h1 hA:=Kh.of (by omega) kA
  have p6l:=p6b _ _ i1
  iterate 7 (first|apply Zp|apply Z6|apply Yk|refine Goes.Zn Z5 ?_|refine Zy Hh Za Z5 ?_)
  refine (Zxj Hh (k:=k) (z:=z) (pd:=h1.next) (by omega) vl (ihk (by omega)) tw len 64 0 _ hA (by omega) (by rw[show Vm V k z 0=[] from rfl,List.append_nil]; exact Ik _ _ _ i1 (by omega) kA) MA ((kA l (by omega) l6).trans hl1) (by omega) (B1.keep Hh kkA) (by rw[hY]; exact bA) (by omega) ⟨by have:=M1.nx; omega,by omega⟩ ?_ ?_ ?_ ?_).mono ?_
  ·exact Zj
  ·exact Zj
  ·have Jf:=@nG; exact Zq
  ·exact Zj
  rintro x ds' ts' h2 ⟨rfl,rfl,i2,M2,hl2,k2⟩
  iterate 3 (first|apply Zp|apply Yb|refine Zy Hh Za Z5 ?_)
  exact⟨_,_,Zj,rfl,i2,M2,hl2,k1.then (kkA.then k2)⟩
end
def allT (V:Nat→List Nat) (P:Nat→Nat) (m:Nat):List Nat:=(List.range m).flatMap fun p=>Mh V (Ml p) (P p)
theorem Zg8 (V:Nat→List Nat) (P:Nat→Nat) (m:Nat):allT V P (m+1)=allT V P m++Mh V (Ml m) (P m):=by
 unfold allT
 rw[List.range_succ,List.flatMap_append]
 simp
theorem Zuj (V:Nat→List Nat) (P:Nat→Nat) {j m:Nat} (h:j≤m):(allT V P j).length≤(allT V P m).length:=by
 induction h with
 | refl=>exact Nat.le_refl _
 | step _ ih=>rw[Zg8,List.length_append]; omega
section
variable (Hh:Hearts K Tryz.prog)
include Hh
variable {n q a b c e:Nat} {cr:Cr} {md:Int} {S T:List Nat} {V:Nat→List Nat} {l py ps pt p6:Nat} {lp:O} {I:List Nat→Go.Ev.H→Prop} {x:List C} {P:Nat→Nat}
theorem Zv0 (X:InoP x P) (tk:∀ lv,lv≤3→Znn n q a b c e cr md S T V l py ps pt p6 lp I lv) (tr:∀ p,p<11→Tu a b c e V (Ml p) (P p)) (len:(allT V P 11).length≤2048):∀ (r j:Nat) (ts:Zw) (h:Go.Ev.H),j+r=11→I (allT V P j) h→HE n q a b c e cr md S T V h→h.get l=some lp→l<h.next→TellB n l py ps pt p6 h →
  Zi ts 4=.w (.c (.ptr pt 0))→Zi ts 9=.w (.g ((x.drop 4).take 11))→Zi ts 10=.w (.c (.int .i64 (j:Int))) →
  Ya 22 none (q59 [1,1,1,1,2]) [] ts h fun x' ds' ts' h'=>x'=.exit 0∧ds'=[]∧I (allT V P 11) h'∧HE n q a b c e cr md S T V h'∧h'.get l=some lp∧Kh n p6 h h':=by
 have xl:=X.xl
 have Al:((x.drop 4).take 11).length=11:=by rw[List.length_take,List.length_drop,xl]; rfl
 obtain⟨A,hA⟩:∃ A,(x.drop 4).take 11=A:=⟨_,rfl⟩
 have ax:∀ j,j<11→A[j]? = some (.int .u32 (P j:Nat)):=fun j hj=>by
  rw[←hA,List.getElem?_take_of_lt hj,List.getElem?_drop]
  exact X.pt j hj
 rw[hA] at Al ⊢
 intro r
 induction r with
 | zero =>
  intro j ts h hj iI M hl ln B t4 t9 t10
  obtain rfl:j=11:=by omega
  have Jf:=@t10
  iterate 6 (first|apply Zp|apply Oe|apply Yt|refine Goes.Zn Zq ?_|refine Zy Hh Za Zq ?_)
  exact⟨rfl,rfl,iI,M,hl,Kh.refl ..⟩
 | succ r ih =>
  intro j ts h hj iI M hl ln B t4 t9 t10
  have j11:j<11:=by omega
  have B':=B
  obtain⟨gy,gs,gt,ly,ls,lt,ny,ns,nt⟩:=B'
  have fs:=Zg8 V P j
  have fl:=Zuj V P (show j+1≤11 by omega)
  have pb:=X.pb j j11
  obtain⟨h1,cT,i1,M1,hl1,k1⟩:=tk (Ml j) (by unfold Ml; omega) (P j) (allT V P j) h pb (tr j j11) (by rw[←fs]; omega) iI M hl ln B
  rw[←fs] at i1
  have ix:=ax j j11
  have cL:Zg 35 [.c (.int .i64 (j:Int))] h (.w (.c (.int .i64 ((Ml j:Nat):Int)))) h:=by
   have e1:(if (j:Int)<8 then (0:Int) else (j:Int) - 7)=((Ml j:Nat):Int):=by
    unfold Ml
    split<;>omega
   refine Zty Hh ?_
   rw[←e1]
   exact Zr.2 ⟨by simp only[Bool.and_eq_true,decide_eq_true_eq]; omega,rfl⟩
  obtain⟨lv,hlv⟩:∃ lv,Ml j=lv:=⟨_,rfl⟩
  rw[hlv] at cL cT
  have bn:Nat.ble h.next h1.next=true:=Wn k1.1
  have dd:decide ((j:Int)<11)=true:=decide_eq_true (by omega)
  obtain⟨z,hz⟩:∃ z,P j=z:=⟨_,rfl⟩
  rw[hz] at ix pb cT
  iterate 11 (first|apply Zp|apply Z6|apply Yk|apply Yt|((first|apply Goes.Zn|apply Goes.ops2 fits Hh Za); · simp (maxSteps:=9^6) +decide (disch:=first|omega|(simp only[lens]<;>omega)|decide) only [go_sem,Zm,Ze,simprocAttr,t4,t9,t10,dd,gt,Zg1,bn,ix,Al,pb,Ed,Zd2,We]<;>rfl))
  iterate 4 (first|apply Z6|((first|apply Goes.Zn|apply Goes.ops2 fits Hh (Zu (Zu Za cL) cT)); · simp (maxSteps:=9^6) +decide (disch:=first|omega|(simp only[lens]<;>omega)|decide) only [go_sem,Zm,Ze,simprocAttr,Z8,t4,t9,t10,dd,gt,Zg1,bn,ix,Al,pb,Ed,Zd2,We]<;>rfl)|(apply Goes.drawn2 fits Hh (Zu (Zu Za cL) cT) (by kernel_rfl); · simp (maxSteps:=9^6) +decide (disch:=first|omega|(simp only[lens]<;>omega)|decide) only [go_sem,Zm,Ze,simprocAttr,drG,Z8,t4,t9,t10,dd,gt,Zg1,bn,ix,Al,pb,Ed,Zd2,We]<;>rfl))
  show Ya 22 none (q59 [1,1,1,1,2]) _ _ _ _
  refine (ih (j+1) _ h1 (by omega) i1 M1 hl1 (by have:=k1.1; omega) (B.keep Hh k1) ?_ ?_ ?_).mono ?_
  ·have Jf:=@t4; exact Zq
  ·have Jf:=@t9; exact Zq
  ·exact Zj
  ·rintro x1 d1 s1 h2 ⟨q1,q2,q3,q4,q5,q6⟩
   exact⟨q1,q2,q3,q4,q5,k1.then q6⟩
theorem Z23 (f:Y2 a b c e=true) (X:InoP x P) (ls:Zis n q a b c e cr md S T V l p6 lp I) (l6:l≠n+6) (p6q:p6≠n+6) (Ik:∀ L h h2,I L h→h.next≤h2.next→(∀ m,m<h.next→m≠n+6→h2.get m=h.get m)→I L h2) (p6b:∀ L h,I L h→p6<h.next) (tr:∀ p,p<11→Tu a b c e V (Ml p) (P p)) (len:(allT V P 11).length≤2048) {px:Nat} {h:Go.Ev.H} (iI:I [] h) (M:HE n q a b c e cr md S T V h) (hl:h.get l=some lp) (ln:l<h.next) (gs:h.get ps=some (.row 1 [[.ptr (n+13) 0]] false)) (lps:ps<h.next) (ns:ps≠n+6∧ps≠p6) (gx:h.get px=some (.row 16 [x] false)) (lpx:px<h.next) :
  ∃ v h',Zg 59 [.c (.yield l),.c (.ptr ps 0),.c (.ptr px 0)] h v h'∧I (allT V P 11) h'∧HE n q a b c e cr md S T V h'∧h'.get l=some lp∧Kh n p6 h h':=by
 obtain⟨nq,nx,n0⟩:=M.nx
 have xl:=X.xl
 have p6l:=p6b _ _ iI
 have rA:Zm 16 [x] 4 11=some ((x.drop 4).take 11):=by
  show (bif Nat.ble (4+11) x.length then _ else none)=_
  rw[xl]
  rfl
 have lp':=Zv0 Hh (n:=n) (q:=q) (a:=a) (b:=b) (c:=c) (e:=e) (cr:=cr) (md:=md) (S:=S) (T:=T) (l:=l) (py:=h.next) (ps:=ps) (pt:=h.next+1) (p6:=p6) (lp:=lp) (I:=I) X (fun lv hlv=>Z3y Hh f ls l6 p6q Ik p6b lv hlv) tr len
 have Al:((x.drop 4).take 11).length=11:=by rw[List.length_take,List.length_drop,xl]; rfl
 obtain⟨A,hA⟩:∃ A,(x.drop 4).take 11=A:=⟨_,rfl⟩
 rw[hA] at rA lp' Al
 refine Jd Hh Tryz.f59 ?_
 iterate 9 (first|apply Zp|apply Yk|(apply Goes.ops2 fits Hh Za; · simp (maxSteps:=9^6) +decide (disch:=first|omega|(simp only[lens]<;>omega)|decide) only [go_sem,Ze,simprocAttr,gx,rA,Al,Zg1,Yr,Lc,Dj,ptrs,We]<;>rfl))
 refine Dc fun hA eA=>?_
 have nA:hA.next=h.next+2:=by rw[eA]; simp only[H.Zf,H.Zc]
 have kA:∀ m,m<h.next→hA.get m=h.get m:=fun m hm=>by rw[eA]; exact Jg
 have by':hA.get h.next=some (.row 1 [[.yield l]] false):=by rw[eA]; exact Jk
 have bt':hA.get (h.next+1)=some (.row 1 [[.fn 60 [] [some (h.next,0),some (ps,0),some (h.next+1,0)]]] false):=by rw[eA]; exact Jk
 clear eA
 have kk:Kh n p6 h hA:=Kh.of (by omega) fun m hm _=>kA m hm
 refine (lp' 11 0 _ hA rfl (Ik _ _ _ iI (by omega) fun m hm _=>kA m hm) (M.keep (by omega) fun m hm=>kA m (by omega)) ((kA l ln).trans hl) (by omega) ⟨by',(kA ps lps).trans gs,bt',by omega,by omega,by omega,⟨by omega,by omega⟩,ns,⟨by omega,by omega⟩⟩ ?_ ?_ ?_).mono ?_
 ·exact Zj
 ·exact Zj
 ·exact Zj
 rintro x1 ds1 ts1 h1 ⟨rfl,rfl,i1,M1,hl1,k1⟩
 show ∃ v h',leave K Tryz.f59 (some (Out.at Go.Ev.X.normal [] ts1 h1))=some (Out.val v h')∧_
 exact⟨_,_,Zj,i1,M1,hl1,kk.then k1⟩
end
def SlB (b:Nat) (h:Go.Ev.H) (c:C) (l:List Nat):Prop:=SlI h c l∧∀ p o n z,c=.slice p o n z→b≤p∧p<h.next
theorem SlB.mono {b b':Nat} {h:Go.Ev.H} {c:C} {l:List Nat} (s:SlB b h c l) (le:b'≤b):SlB b' h c l:=⟨s.1,fun p o n z e=>⟨Nat.le_trans le (s.2 p o n z e).1,(s.2 p o n z e).2⟩⟩
theorem SlB.keep {b:Nat} {h h':Go.Ev.H} {c:C} {l:List Nat} (s:SlB b h c l) (nx:h.next≤h'.next) (k:∀ p,b≤p→p<h.next→h'.get p=h.get p):SlB b h' c l :=
 ⟨s.1.keep fun p o n z e=>k p (s.2 p o n z e).1 (s.2 p o n z e).2,fun p o n z e=>by
  have:=s.2 p o n z e
  omega⟩
theorem Z5a {b:Nat} {h:Go.Ev.H} {c:C} {l:List Nat} (s:SlB b h c l) (bh:b≤h.next) (hl:l.length≤4000) (x:Nat):∃ c' h',Uy (h.new (.row 1 [[.int .i64 (x:Int)]] false)) (some ti3) c (.slice h.next 0 1 1)=some (.w (.c c'),h')∧SlB b h' c' (l++[x])∧h.next≤h'.next∧∀ p,p<h.next→(∀ o k z,c≠.slice p o k z)→h'.get p=h.get p:=by
 obtain⟨s,sb⟩:=s
 rcases s with ⟨rfl,rfl⟩|⟨p,p1,rfl,pp⟩
 ·refine⟨_,_,Z22 _,⟨.inr ⟨h.next+1,by simp,rfl,?_⟩,fun p o n z e=>?_⟩,?_,fun p hp _=>?_⟩
  ·rw[Gp (by simp only[H.Zc]<;>omega)]; rfl
  ·cases e; simp only[H.Zc]; omega
  ·simp only[H.Zc]; omega
  ·rw[Yn (by simp only[H.Zc]; omega),Yn (by omega)]
 ·have sb':=sb p 0 _ _ rfl
  have ap:=Z5c (h:=h) (L:=rwI l) [.int .i64 (x:Int)] pp sb'.2 (by rw[Xx]; exact hl)
  rw[Xx] at ap
  refine⟨_,_,ap,⟨.inr ⟨h.next+1,by simp,by rw[List.length_append]; rfl,?_⟩,fun p o n z e=>?_⟩,?_,fun p' hp ne=>?_⟩
  ·rw[←Zxd,Gp (by simp only[H.Zc,H.Yo]<;>omega)]
  ·cases e; simp only[H.Zc,H.Yo]; omega
  ·simp only[H.Zc,H.Yo]; omega
  ·have:p'≠p:=fun e=>ne _ _ _ (by rw[e])
   rw[Yn (by simp only[H.Zc,H.Yo]; omega),Qg this,Yn (by omega)]
theorem Z6a {n:Nat} {rd:Option Nat} {cd:Go.Code} {ds:List Nat} {ts:Zw} {h:Go.Ev.H} {Q:X→List Nat→Zw→Go.Ev.H→Prop} (g:∀ ts',ts'=ts→Ya n rd cd ds ts' h Q):Ya n rd cd ds ts h Q:=g ts rfl
theorem Zs1 {nt l dd:Nat} {ps:List Nat} {ts tz:Zw} {A B:Go.Code} (ne:B≠A) {us:List W} {h:Go.Ev.H} {J:Zw→Go.Ev.H→Prop} {Q:Go.Ev.H→Prop} (z:U4 nt ps us ts=some tz)
  (hl:h.get l=some (.loop ts nt ps A B .ready none dd))
  (hA:Ya nt (some l) A [] tz h fun x ds' ts' h'=>x=.normal∧ds'=[]∧h'.get l=h.get l∧J ts' h')
  (hB:∀ ts' h',J ts' h'→Ya nt (some l) B [] ts' (h'.put l (.loop ts nt ps A B .busy none dd)) fun x _ _ h2=>x=.normal∧h2.get l=some (.loop ts nt ps A B .busy none dd)∧Q h2) :
  ∃ E h2,Sound K Tryz.prog E∧G9 E l (some us) h (some (.loop ts nt ps A B .ready none dd))=some (.val (.w (.c (.bool true))) (h2.put l (.loop ts nt ps A B .ready none dd)))∧Q h2:=by
 obtain⟨xa,ds1,ts1,h1,kA,rfl,rfl,gl,j⟩:=hA
 obtain⟨xb,ds2,ts2,h2,kB,rfl,g2,q⟩:=hB _ _ j
 have Sd:=Dp (Dp Za kB) kA
 obtain⟨E,h3,Sd2,r,rfl⟩:∃ E h3,Sound K Tryz.prog E∧G9 E l (some us) h (h.get l)=some (.val (.w (.c (.bool true))) h3)∧h3=h2.put l (.loop ts nt ps A B .ready none dd) :=
  ⟨_,_,Sd,Mf hl z (Fe ..) (gl.trans hl) (Qr (fun e=>ne (Task.code.inj e).1) |>.trans (Fe ..)) g2,rfl⟩
 rw[hl] at r
 exact⟨_,_,Sd2,r,q⟩
noncomputable def q8 (p:List Nat):Code:=piece p (Ut Tryz.f8)
theorem Zte:q8 [1,1,1,0,1,2]=.rangeFunc (.tmp 14) #[15,16] (q8 [1,1,1,0,1,2,5]) (q8 [1,1,1,0,1,2,6]):=by kernel_rfl
theorem Zow:q8 [1,1,1,0,1,2,5]=.seq (q8 [1,1,1,0,1,2,5,0]) (q8 [1,1,1,0,1,2,5,1]):=by kernel_rfl
theorem Zox:q8 [1,1,1,0,1,2,6]=.block 1 (q8 [1,1,1,0,1,2,6,2]):=by kernel_rfl
theorem rs8:Tryz.f8.results.toList=[.cell 4 40,.cell 5 31]:=rfl
attribute [go_sem] rs8
def Zgo (p6:Nat) (L:List Nat) (h:Go.Ev.H):Prop:=p6<h.next∧∃ s,h.get p6=some (.row 1 [[s]] false)∧SlB (p6+1) h s L
theorem Zgo.keep {p6:Nat} {L:List Nat} {h h2:Go.Ev.H} (J:Zgo p6 L h) (nn:h.next≤h2.next) (k:∀ m,p6≤m→m<h.next→h.get m=some (.row 1 (rwI L) false)∨m=p6→h2.get m=h.get m):Zgo p6 L h2:=by
 obtain⟨p6l,s,g,sl,sb⟩:=J
 refine⟨by omega,s,(k p6 (Nat.le_refl _) p6l (.inr rfl)).trans g,?_,fun p o n z e=>?_⟩
 ·rcases sl with w|⟨p,a1,a2,a3⟩
  ·exact .inl w
  ·have b:=sb p 0 _ _ a2
   exact .inr ⟨p,a1,a2,(k p (by omega) b.2 (.inl a3)).trans a3⟩
 ·have:=sb p o n z e
  omega
section
variable (Hh:Hearts K Tryz.prog)
include Hh
variable {n q a b c e:Nat} {cr:Cr} {md:Int} {S T:List Nat} {V:Nat→List Nat} {h:Go.Ev.H} {x:List C} {P:Nat→Nat}
theorem maA (lq:Nat) (ts:Zw) (z:Nat) (h:Go.Ev.H):Ya 28 (some lq) (q8 [1,1,1,0,1,2,5]) [] ((ts.set 15 (.w (.c (.int .i64 (z:Int))))).set 16 (.w (.c (.int .i64 0)))) h fun x ds' ts' h'=>x=.normal∧ds'=[]∧h'=h∧Zi ts' 7=.w (.c (.int .i64 (z:Int)))∧Zi ts' 8=.w (.c (.int .i64 0))∧Zi ts' 6=Zi ts 6:=by
 iterate 3 (first|apply Zp|refine Zy Hh Za Zj ?_)
 refine⟨rfl,rfl,rfl,?_,?_,?_⟩
 ·exact Zj
 ·exact Zj
 ·exact Zj
theorem maB (M:HE n q a b c e cr md S T V h) {p6 l z:Nat} {L:List Nat} {ts:Zw} (bq:q+9≤p6) (pl:p6<l) (L2:L.length<2048) (t6:Zi ts 6=.w (.c (.ptr p6 0))) (t7:Zi ts 7=.w (.c (.int .i64 (z:Int)))) (t8:Zi ts 8=.w (.c (.int .i64 0))) (J:Zgo p6 L h) (hl:∃ lo,h.get l=some lo∧Zky lo) (ll:l<h.next) :
  Ya 28 (some l) (q8 [1,1,1,0,1,2,6]) [] ts h fun x' _ _ h'=>x'=.normal∧h'.get l=h.get l∧Zgo p6 (L++[z]) h'∧HE n q a b c e cr md S T V h'∧Kh n p6 h h':=by
 obtain⟨p6l,s,g6,sl⟩:=J
 obtain⟨lo,hl1,hl2⟩:=hl
 obtain⟨nq,nx,n0⟩:=M.nx
 obtain⟨c',hD,ap,sD,nD,kD⟩:=Z5a sl (by omega) (by omega) z
 have ne:∀ m o,h.get m=some o→Zky o→∀ o' k z',s≠.slice m o' k z':=fun m o g w o' k z' e=>by
  subst e
  rcases sl.1 with ⟨_,w2⟩|⟨p,_,w2,w3⟩
  ·cases w2
  ·cases w2
   rw[g] at w3
   cases w3
   exact w _ rfl
 have neL:∀ m,m<p6+1→∀ o k z,s≠.slice m o k z:=fun m hm o k z e=>by have:=(sl.2 m o k z e).1; omega
 have D6:=(kD p6 p6l (neL p6 (by omega))).trans g6
 have sf:=Z61 sl.1
 have sf1:=Zj6
 obtain⟨lf,ln⟩:=Zwc sl.1
 have e1:((L.length:Int) == 2048)=false:=Bl (by omega)
 obtain⟨Ll,hLl⟩:∃ Ll,L.length=Ll:=⟨_,rfl⟩
 rw[hLl] at e1 ln
 iterate 12 (first|apply Zp|apply Z6|apply Yk|((first|apply Goes.Zn|apply Goes.ops2 fits Hh Za); · simp (maxSteps:=9^6) +decide (disch:=first|omega|(simp only[lens]<;>omega)|decide) only [go_sem,Zm,Ze,simprocAttr,t6,t7,t8,g6,Zg1,e1,sf,sf1,Z4u,ap,D6,lf,ln,Zt]<;>rfl))
 refine⟨rfl,?_,⟨?_,c',?_,?_⟩,M.keep ?_ fun m hm=>?_,?_,fun m o hm h6 hp g w=>?_⟩
 ·rw[Zo (by omega)]; exact kD _ ll (ne _ _ hl1 hl2)
 ·rw[H.Zf]; omega
 ·exact Yg ..
 ·exact⟨sD.1.keep fun p o k z e=>Zo (by have:=(sD.2 p o k z e).1; omega),fun p o k z e=>by rw[H.Zf]; exact sD.2 p o k z e⟩
 ·rw[H.Zf]; omega
 ·rw[Zo (by omega)]; exact kD m (by omega) (neL m (by omega))
 ·rw[H.Zf]; omega
 ·rw[Zo hp]; exact (kD m hm (w.elim (fun w=>neL m (by omega)) (ne _ _ g))).trans g
theorem Z6k {p6 l dd:Nat} {ts:Zw} (bq:q+9≤p6) (pl:p6<l) (t6:Zi ts 6=.w (.c (.ptr p6 0))):Zis n q a b c e cr md S T V l p6 (.loop ts 28 [15,16] (q8 [1,1,1,0,1,2,5]) (q8 [1,1,1,0,1,2,6]) .ready none dd) (Zgo p6):=by
 intro L z h L2 z32 J M hl ln
 obtain⟨nq,nx,n0⟩:=M.nx
 have ne:(q8 [1,1,1,0,1,2,6])≠(q8 [1,1,1,0,1,2,5]):=fun e1=>by
  rw[Zox,Zow] at e1
  cases e1
 have nb:∀ st,Zky (.loop ts 28 [15,16] (q8 [1,1,1,0,1,2,5]) (q8 [1,1,1,0,1,2,6]) st none dd):=fun st=>Zs0
 obtain⟨E2,h2,Sd,rnd,J2,M2,kk⟩:=Zs1 (l:=l) (nt:=28) (ts:=ts) (ps:=[15,16]) (A:=q8 [1,1,1,0,1,2,5]) (B:=q8 [1,1,1,0,1,2,6]) (dd:=dd) (J:=fun ts' h'=>h'=h∧Zi ts' 7=.w (.c (.int .i64 (z:Int)))∧Zi ts' 8=.w (.c (.int .i64 0))∧Zi ts' 6=.w (.c (.ptr p6 0)))
  (Q:=fun h2=>Zgo p6 (L++[z]) h2∧HE n q a b c e cr md S T V h2∧Kh n p6 (h.put l (.loop ts 28 [15,16] (q8 [1,1,1,0,1,2,5]) (q8 [1,1,1,0,1,2,6]) .busy none dd)) h2) ne (us:=[.c (.int .i64 (z:Int)),.c (.int .i64 0)]) (tz:=(ts.set 15 (.w (.c (.int .i64 (z:Int))))).set 16 (.w (.c (.int .i64 0)))) rfl hl
  ((maA Hh l ts z h).mono fun x' ds' ts' h' ⟨e1,e2,e3,t7,t8,u6⟩=>⟨e1,e2,by rw[e3],e3,t7,t8,u6.trans t6⟩)
  (fun ts' h' ⟨e3,t7,t8,u6⟩=>by
   subst e3
   refine (maB Hh (M.keep (h2:=h'.put l _) (by rw[H.Zf]; omega) fun m hm=>Zo (by omega)) bq pl L2 u6 t7 t8 (J.keep (by rw[H.Zf]; omega) fun m _ _ w=>Zo fun e=>?_) ⟨_,Yg ..,nb _⟩ (by rw[H.Zf]; exact ln)).mono fun x2 _ _ h2 ⟨e1,e9,J2,M2,k2⟩=>⟨e1,e9.trans (Yg ..),J2,M2,k2⟩
   rcases w with w|w
   ·rw[e,hl] at w; cases w
   ·omega)
 have n2:=kk.1
 rw[H.Zf] at n2
 have fin:∀ m o,m<h.next→m≠n+6→m≠p6→h.get m=some o→(m<p6∨Zky o)→m≠l→h2.get m=some o:=fun m o hm h6 hp g w ml=>kk.2 m o (by rw[H.Zf]; exact hm) h6 hp (by rw[Zo ml]; exact g) w
 refine⟨E2,_,Sd,rnd,J2.keep (by rw[H.Zf]; omega) fun m _ _ w=>Zo fun e=>?_,M2.keep (by rw[H.Zf]; omega) fun m hm=>Zo (by omega),Yg ..,by rw[H.Zf]; omega,fun m o hm h6 hp g w=>?_⟩
 ·rcases w with w|w
  ·have:=kk.2 l _ (by rw[H.Zf]; exact ln) (by omega) (by omega) (Yg ..) (.inr (nb _))
   rw[e,this] at w
   cases w
  ·omega
 ·by_cases ml:m=l
  ·subst ml
   rw[hl] at g
   cases g
   exact Yg ..
  ·rw[Zo ml]
   exact fin m o hm h6 hp g w ml
theorem Z3e (f:Y2 a b c e=true) (X:InoP x P) (tr:∀ p,p<11→Tu a b c e V (Ml p) (P p)) (len:(allT V P 11).length≤2048) {ts:Zw} {hC:Go.Ev.H} {b1 p6 ps px:Nat} (M:HE n q a b c e cr md S T V hC) (nC:hC.next=b1) (bq:q+9≤p6) (b6:p6<b1) (b7:ps<b1∧p6<ps) (b8:px<b1) (t6:Zi ts 6=.w (.c (.ptr p6 0))) (eg:Zx K ts (.tmp 14)=some (.fn 59 [] [some (ps,0),some (px,0)])) (g6:hC.get p6=some (.row 1 [[.snil]] false)) (gs:hC.get ps=some (.row 1 [[.ptr (n+13) 0]] false)) (gx:hC.get px=some (.row 16 [x] false)) :
  Ya 28 none (q8 [1,1,1,0,1,2]) [] ts hC fun x' ds' ts' h'=>x'=.normal∧ts'=ts∧ds'=[b1]∧h'.get b1=some .defers∧Zgo p6 (allT V P 11) h'∧HE n q a b c e cr md S T V h'∧b1+2≤h'.next∧Kh n p6 hC h':=by
 obtain⟨nq,nx,n0⟩:=M.nx
 rw[Zte]
 obtain⟨lp,hlp⟩:∃ lp,lp=O.loop ts 28 [15,16] (q8 [1,1,1,0,1,2,5]) (q8 [1,1,1,0,1,2,6]) .ready none b1:=⟨_,rfl⟩
 have gl:((hC.new .defers).new lp).get (b1+1)=some lp:=Gp (by rw[H.Zc]; omega)
 have gd:((hC.new .defers).new lp).get b1=some .defers:=by rw[Yn (by rw[H.Zc]; omega),Gp (by omega)]
 have gk:∀ p,p<b1→((hC.new .defers).new lp).get p=hC.get p:=fun p hp=>by rw[Yn (by rw[H.Zc]; omega),Yn (by omega)]
 have nx2:((hC.new .defers).new lp).next=b1+2:=by simp only[H.Zc]; omega
 have ls:Zis n q a b c e cr md S T V (b1+1) p6 lp (Zgo p6):=by
  rw[hlp]
  exact Z6k Hh bq (by omega) t6
 obtain⟨v,h3,cc,J,M3,g9,k3⟩:=Z23 Hh (n:=n) (q:=q) (a:=a) (b:=b) (c:=c) (e:=e) (cr:=cr) (md:=md) (S:=S) (T:=T) (V:=V) (l:=b1+1) (ps:=ps) (p6:=p6) (lp:=lp) (I:=Zgo p6) (h:=(hC.new .defers).new lp) f X ls (by omega) (by omega) (fun L h h2 J nn k=>J.keep nn fun m hm hl _=>k m hl (by omega)) (fun L h J=>J.1) tr len
  ⟨by omega,.snil,(gk p6 b6).trans g6,.inl ⟨rfl,rfl⟩,fun p o n z e=>by cases e⟩ (M.keep (by omega) fun m hm=>gk m (by omega)) gl (by omega) ((gk ps b7.1).trans gs) (by omega) ⟨by omega,by omega⟩ ((gk px b8).trans gx) (by omega)
 have n3:=k3.1
 refine Goes.Zoz fits Hh (f:=59) (first:=[]) (caps:=[some (ps,0),some (px,0)]) eg ⟨v,h3,?_,?_⟩
 ·rw[nC]
  subst hlp
  exact cc
 ·rw[nC]
  subst hlp
  refine⟨_,_,_,_,_,_,_,_,g9,by simp,?_⟩
  show _∧_∧_
  refine⟨rfl,rfl,rfl,?_,J.keep (by rw[H.Zf]; omega) fun m _ _ w=>Zo fun e=>?_,M3.keep (by rw[H.Zf]; omega) fun m hm=>Zo (by omega),by rw[H.Zf]; omega,by rw[H.Zf]; omega,fun m o hm h6 hp g w=>?_⟩
  ·rw[Zo (by omega)]
   exact k3.2 b1 _ (by omega) (by omega) (by omega) gd (.inr fun X e=>by cases e)
  ·rcases w with w|w
   ·rw[e,g9] at w; cases w
   ·omega
  ·rw[Zo (by omega)]
   exact k3.2 m o (by omega) h6 hp ((gk m (by omega)).trans g) w
theorem Z3d (f:Y2 a b c e=true) (m0:md≠0) (M:HE n q a b c e cr md S T V h) (X:InoP x P) (tr:∀ p,p<11→Tu a b c e V (Ml p) (P p)) (len:(allT V P 11).length≤2048) :
  ∃ cs h',Zg 8 [.c (.ptr (n+13) 0),.g x] h (.tup [.c cs,.c (.int .i64 0)]) h'∧SlB h.next h' cs (allT V P 11)∧HE n q a b c e cr md S T V h'∧h.next≤h'.next∧∀ m o,m<h.next→m≠n+6→h.get m=some o→h'.get m=some o:=by
 obtain⟨nq,nx,n0⟩:=M.nx
 obtain⟨st,⟨kn,hs⟩,⟨dk,gl⟩,ht⟩:=M.cells
 unfold gdL gdD at gl
 have dm:(md != 0)=true:=Zl2 m0
 have xl:=X.xl
 obtain⟨b1,hb1⟩:∃ b1,h.next=b1:=⟨_,rfl⟩
 obtain⟨v,h',cc,cs,rfl,qq⟩:∃ v h',Zg 8 [.c (.ptr (n+13) 0),.g x] h v h'∧∃ cs,v=.tup [.c cs,.c (.int .i64 0)]∧SlB h.next h' cs (allT V P 11)∧HE n q a b c e cr md S T V h'∧h.next≤h'.next∧∀ m o,m<h.next→m≠n+6→h.get m=some o→h'.get m=some o:=by
  refine Jd Hh Tryz.f8 ?_
  have Jf:=Qu @f @hs @gl @dm @xl @Zg1
  iterate 13 (first|apply Zp|apply Z6|apply Yk|refine Goes.Zn Ju ?_|refine Zy Hh (EY (EY Za (X8 Hh)) (Zx1 Hh)) Ju ?_)
  refine Dc fun hC eC=>?_
  have nC:hC.next=b1+6:=by rw[eC]; simp only[H.Zf,H.Zc,hb1]
  have kC:∀ m,m<h.next→hC.get m=h.get m:=fun m hm=>by rw[eC]; exact Jg
  have g1:hC.get (b1+1)=some (.row 1 [[.snil]] false):=by rw[eC,←hb1]; exact Jk
  have g2:hC.get (b1+2)=some (.row 1 [[.int .i64 0]] false):=by rw[eC,←hb1]; exact Jk
  have g3:hC.get (b1+3)=some (.row 1 [[.snil]] false):=by rw[eC,←hb1]; exact Jk
  have g4:hC.get (b1+4)=some (.row 1 [[.ptr (n+13) 0]] false):=by rw[eC,←hb1]; exact Jk
  have g5:hC.get (b1+5)=some (.row 16 [x] false):=by rw[eC,←hb1]; exact Jk
  clear eC
  refine Z6a fun ts hts=>?_
  have t6:Zi ts 6=.w (.c (.ptr (b1+3) 0)):=by rw[hts,←hb1]; exact Zj
  have eg:Zx K ts (.tmp 14)=some (.fn 59 [] [some (b1+4,0),some (b1+5,0)]):=by
   rw[hts,←hb1]
   exact Zj
  refine (Z3e Hh (p6:=b1+3) (ps:=b1+4) (px:=b1+5) f X tr len (M.keep (by omega) fun m hm=>kC m (by omega)) nC (by omega) (by omega) ⟨by omega,by omega⟩ (by omega) t6 eg g3 g4 g5).mono ?_
  rintro x1 ds1 ts1 h1 ⟨rfl,rfl,rfl,gd,J,M1,n1,k1⟩
  subst hts
  obtain⟨p6l,cs,c1',sl⟩:=J
  have r1:=k1.2 (b1+1) _ (by omega) (by omega) (by omega) g1 (.inl (by omega))
  have r2:=k1.2 (b1+2) _ (by omega) (by omega) (by omega) g2 (.inl (by omega))
  have Jf:=Uc @f @hs (Ur @gl @dm @xl @Zg1 @gd @c1' @r1 @r2 @hb1)
  iterate 3 (first|apply Zp|apply Yb|refine Zy Hh Za Ju ?_)
  refine⟨_,_,Zq,cs,rfl,?_,M1.keep ?_ fun m hm=>?_,?_,fun m o hm m6 g=>?_⟩
  ·refine⟨?_,fun p o n z e=>?_⟩
   ·rcases sl.1 with w|⟨p,a1',a2',a3'⟩
    ·exact .inl w
    ·have:=sl.2 p 0 _ _ a2'
     exact .inr ⟨p,a1',a2',by rw[Qg (fun w=>by rw[w,gd] at a3'; cases a3'),Zo (by omega),Zo (by omega)]; exact a3'⟩
   ·have:=sl.2 p o n z e
    simp only[H.Zf,H.Yo]<;>omega
  ·simp only[H.Zf,H.Yo]<;>omega
  ·exact Jg
  ·simp only[H.Zf,H.Yo]<;>omega
  ·refine Eq.trans ?_ (k1.2 m o (by omega) m6 (by omega) ((kC m hm).trans g) (.inl (by omega))); exact Jg
 exact⟨cs,h',cc,qq⟩
end
end Go.Proofs.YtdmendgkbikkaaaGreatDoor
