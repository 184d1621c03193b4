/- mapping.hanging: all blocks that hang on an inode, told one by one. -/
import Derived.Test.YteiljiijagmonaaGreatDoorCkc
set_option maxRecDepth 100000
set_option maxHeartbeats 4000000
set_option linter.unusedSimpArgs false
set_option linter.unusedVariables false
set_option linter.unusedSectionVars false
namespace Go.Proofs.YteiljiijagmonaaGreatDoor
open Go.Ev
noncomputable section
theorem ty167:K.types.get 167=some ti167:=kR
theorem sz167:ti167.size=1:=by rfl
theorem ag167:ti167.agg=false:=by rfl
theorem ty168:K.types.get 168=some ti168:=kR
theorem sz168:ti168.size=1:=by rfl
theorem ag168:ti168.agg=false:=by rfl
attribute [go_sem] ty167 sz167 ag167 ty168 sz168 ag168
noncomputable def q89 (p:Lq):Code:=piece p (Ug Tryz.f89)
noncomputable def q90 (p:Lq):Code:=piece p (Ug Tryz.f90)
theorem rs31:Tryz.f31.results.toList=[.tmp 2]:=rfl
theorem rs44:Tryz.f44.results.toList=[.tmp 4]:=rfl
theorem rs89:Tryz.f89.results.toList=[]:=rfl
theorem rs90:Tryz.f90.results.toList=[.tmp 7]:=rfl
attribute [go_sem] rs31 rs44 rs89 rs90
def Zsy:Kn1:=fun args h=>match args with
 | [.c (.int .i64 p)]=>Yt (decide (0<=p)&&decide (p<11)) (some (.w (.c (.int .i64 (if p<8 then 0 else p - 7))),h))
 | _=>none
def Z1d:Kn1:=fun args h=>match args with
 | [.c s,.g x]=>Yt (Nat.beq x.length 16) (some (.w (.c (.fn 89 [] [some (h.next,0),some (h.next+1,0)])),(h.new (.row 1 [[s]] false)).new (.row 16 [x] false)))
 | _=>none
theorem Zjn (c:C):read1 1 [[c]] 0=some c:=rfl
def Zn2 (o:O):Prop:=∀ X,o≠.row 1 (rwI X) false
def Kh (n p6:Nat) (h h':Hq):Prop:=h.next<=h'.next/\∀ m o,m<h.next->m≠n+6->m≠p6->h.get m=some o->(m<p6\/Zn2 o)->h'.get m=some o
theorem Kh.refl (n p6:Nat) (h:Hq):Kh n p6 h h:=⟨Nat.le_refl _,fun _ _ _ _ _ e _=>e⟩
theorem Kh.then {n p6:Nat} {h h1 h2:Hq} (k:Kh n p6 h h1) (k2:Kh n p6 h1 h2):Kh n p6 h h2:=⟨Nat.le_trans k.1 k2.1,fun m o a b c e w=>k2.2 m o (Nat.lt_of_lt_of_le a k.1) b c (k.2 m o a b c e w) w⟩
theorem Kh.of {n p6:Nat} {h h':Hq} (hx:h.next<=h'.next) (k:∀ m,m<h.next->m≠n+6->h'.get m=h.get m):Kh n p6 h h':=⟨hx,fun m o a b _ e _=>(k m a b).trans e⟩
theorem Z4f {sz:Nat} {L:List (List C)} {ro:Bool} (h:sz≠1):Zn2 (.row sz L ro):=fun X e=>h (O.row.inj e).1
theorem Zhx {c:C} (h:∀ z,c≠.int .i64 z):Zn2 (.row 1 [[c]] false):=fun X e=>by
 have e2:[[c]]=rwI X:=(O.row.inj e).2.1
 cases X with
 | nil=>cases e2
 | cons x l =>
  have:[c]=[C.int .i64 (x:Int)]:=(List.cons.inj e2).1
  exact h _ (List.cons.inj this).1
theorem Zwg {ts:Zw} {n:Nat} {ps:Lq} {a b:Go.Code} {st:LoopState} {p:Option Go.Code} {d:Nat}:Zn2 (.loop ts n ps a b st p d):=fun X e=>by cases e
def Wn (a b c e:Nat) (V:Nat->Lq):Nat->Nat->Prop
 | 0,_=>True
 | k+1,z=>z≠0->Uu a b c e (z:Int)=true/\z<2+e+a * b/\∀ w,w<64->Wn a b c e V k (Yq (V z) (4 * w))
section
variable (Hh:Hearts K Tryz.prog)
include Hh
theorem Zxi {args:List W} {h h':Hq} {v:V} (e:Zsy args h=some (v,h')):Zi 31 args h v h':=by
 unfold Zsy at e
 split at e
 ·rename_i p
  obtain⟨b,e⟩:=Zq.1 e
  simp only[aQ,decide_eq_true_eq] at b
  obtain⟨b1,b2⟩:=b
  cases e
  have d1:decide (p<0)=false:=decide_eq_false oM
  have d2:decide (p > 10)=false:=decide_eq_false oM
  by_cases q:p<8
  ·have d3:decide (p<8)=true:=decide_eq_true q
   rw[if_pos q]
   refine fnG Hh Tryz.f31 ?_
   have Jf:=Ju @d1 @d2 @d3
   iterate 5 (first|apply Zu|apply Jc|refine Zr Hh Za Zn ?_)
   refine Goes.ops2 fits Hh Za (by
    iterate 7 (refine Yv Zn ?_)
    exact Yu) ?_
   iterate 7 (first|apply Zu|apply Yc|refine Goes.Zl Zn ?_|refine Zr Hh Za Zn ?_)
   exact Zf
  ·have d3:decide (p<8)=false:=decide_eq_false q
   have e1:p - 8+1=p - 7:=oM
   rw[if_neg q]
   refine fnG Hh Tryz.f31 ?_
   have Jf:=Um @d1 @d2 @d3 @e1
   iterate 5 (first|apply Zu|apply Jc|refine Zr Hh Za Zn ?_)
   refine Goes.ops2 fits Hh Za (by
    iterate 7 (refine Yv Zn ?_)
    exact Yu) ?_
   iterate 8 (first|apply Zu|apply Ye|apply Yc|refine Goes.Zl Zn ?_|refine Zr Hh Za Zn ?_)
   exact Zn
 ·cases e
theorem Z1e {args:List W} {h h':Hq} {v:V} (e:Z1d args h=some (v,h')):Zi 44 args h v h':=by
 unfold Z1d at e
 split at e
 ·rename_i s x
  obtain⟨b,e⟩:=Zq.1 e
  have xl:=bQ b
  cases e
  refine fnG Hh Tryz.f44 ?_
  repeat (first|apply Zu|apply Yc|((first|apply Goes.Zl|apply Goes.ops2 fits Hh Za); · simp (maxSteps:=9^6) +decide (disch:=first|exact dZ|fail) only [go_sem,Zk,Zh,simprocAttr,xl,Yy,Bh,Gm,ptrs]<;>rfl))
  exact Zf
 ·cases e
attribute [go_sem] Zsy Z1d
variable {n q a b c e:Nat} {cr:Cr} {md:Int} {S T:Lq} {V:Nat->Lq} {l py ps pt p6:Nat} {lp:O} {I:Lq->Hq->Prop}
def Zlo (n q a b c e:Nat) (cr:Cr) (md:Int) (S T:Lq) (V:Nat->Lq) (l p6:Nat) (lp:O) (I:Lq->Hq->Prop):Prop:=∀ (L:Lq) (z:Nat) (h:Hq),L.length<2048->z<4294967296->I L h->HE n q a b c e cr md S T V h->h.get l=some lp->l<h.next->∃ E h',Sound K Tryz.prog E/\Gc E l (some [.c (.int .i64 (z:Int)),.c (.int .i64 0)]) h (some lp)=some (.val (.w (.c (.bool true))) h')/\I (L++[z]) h'/\HE n q a b c e cr md S T V h'/\h'.get l=some lp/\Kh n p6 h h'
structure TellB (n l py ps pt p6:Nat) (h:Hq):Prop where
 gy:h.get py=some (.row 1 [[.yield l]] false)
 gs:h.get ps=some (.row 1 [[.ptr (n+13) 0]] false)
 gt:h.get pt=some (.row 1 [[.fn 90 [] [some (py,0),some (ps,0),some (pt,0)]]] false)
 ly:py<h.next
 ls:ps<h.next
 lt:pt<h.next
 ny:py≠n+6/\py≠p6
 ns:ps≠n+6/\ps≠p6
 nt:pt≠n+6/\pt≠p6
theorem TellB.keep {h h':Hq} (B:TellB n l py ps pt p6 h) (k:Kh n p6 h h'):TellB n l py ps pt p6 h':=by
 obtain⟨gy,gs,gt,ly,ls,lt,ny,ns,nt⟩:=B
 have:=k.1
 exact⟨k.2 _ _ ly ny.1 ny.2 gy (.inr (Zhx fun z w=>by cases w)),k.2 _ _ ls ns.1 ns.2 gs (.inr (Zhx fun z w=>by cases w)),k.2 _ _ lt nt.1 nt.2 gt (.inr (Zhx fun z w=>by cases w)),oM,oM,oM,ny,ns,nt⟩
def Qh (V:Nat->Lq) (k z j:Nat):Lq:=(List.range j).flatMap fun w=>Rf V k (Yq (V z) (4 * w))
omit Hh in
theorem Zha (V:Nat->Lq) (k z j:Nat):Qh V k z (j+1)=Qh V k z j++Rf V k (Yq (V z) (4 * j)):=by
 unfold Qh
 rw[List.range_succ,List.flatMap_append]
 simp
omit Hh in
theorem Zv5 (V:Nat->Lq) (k z:Nat) {j m:Nat} (h:j<=m):(Qh V k z j).length<=(Qh V k z m).length:=by
 induction h with
 | refl=>exact Nat.le_refl _
 | step _ ih=>rw[Zha,List.length_append]; omega
def Zqw (n q a b c e:Nat) (cr:Cr) (md:Int) (S T:Lq) (V:Nat->Lq) (l py ps pt p6:Nat) (lp:O) (I:Lq->Hq->Prop) (lv:Nat):Prop:=∀ (z:Nat) (L:Lq) (h:Hq),z<4294967296->Wn a b c e V lv z->(L++Rf V lv z).length<=2048->I L h->HE n q a b c e cr md S T V h->h.get l=some lp->l<h.next->TellB n l py ps pt p6 h->∃ h',Zi 90 [.c (.int .i64 (z:Int)),.c (.int .i64 (lv:Int)),.c (.ptr py 0),.c (.ptr ps 0),.c (.ptr pt 0)] h (.w (.c (.bool true))) h'/\I (L++Rf V lv z) h'/\HE n q a b c e cr md S T V h'/\h'.get l=some lp/\Kh n p6 h h'
theorem Z0z {k z pd:Nat} (k3:k<=3) (vl:(V z).length=256) (rec:Zqw n q a b c e cr md S T V l py ps pt p6 lp I k) (tr:∀ w,w<64->Wn a b c e V k (Yq (V z) (4 * w))) {L:Lq} (len:(L++Qh V k z 64).length<=2048):∀ (r j:Nat) (ts:Zw) (h:Hq),j+r=64->I (L++Qh V k z j) h->HE n q a b c e cr md S T V h->h.get l=some lp->l<h.next->TellB n l py ps pt p6 h->h.get pd=some (.row 256 [pgL (V z)] false)->pd<h.next->pd≠n+6/\pd≠p6 ->
  Ze ts 1=.w (.c (.int .i64 ((k+1:Nat):Int)))->Ze ts 4=.w (.c (.ptr pt 0))->Ze ts 8=.w (.c (.ptr pd 0))->Ze ts 30=.w (.c (.int .i64 (j:Int))) ->
  Z7 41 none (q90 [1,1,1,1,1,1,0,1,2]) [] ts h fun x ds' ts' h'=>x=.exit 0/\ds'=[]/\I (L++Qh V k z 64) h'/\HE n q a b c e cr md S T V h'/\h'.get l=some lp/\Kh n p6 h h':=by
 intro r
 induction r with
 | zero =>
  intro j ts h hj iI M hl ln B gd dl nd t1 t4 t8 t30
  obtain rfl:j=64:=oM
  have Jf:=@t30
  iterate 6 (first|apply Zu|apply Gr|apply J8|refine Goes.Zl Zn ?_|refine Zr Hh Za Zn ?_)
  exact⟨rfl,rfl,iI,M,hl,Kh.refl ..⟩
 | succ r ih =>
  intro j ts h hj iI M hl ln B gd dl nd t1 t4 t8 t30
  have j6:j<64:=oM
  have B':=B
  obtain⟨gy,gs,gt,ly,ls,lt,ny,ns,nt⟩:=B'
  have cP:=Zzu Hh vl gd j6
  have fs:=Zha V k z j
  have fl:=Zv5 V k z (show j+1<=64 by omega)
  obtain⟨h1,cT,i1,M1,hl1,k1⟩:=rec (Yq (V z) (4 * j)) (L++Qh V k z j) h (Zuh _ _) (tr j j6) (by rw[List.append_assoc,<-fs,List.length_append]; rw[List.length_append] at len; omega) iI M hl ln B
  rw[List.append_assoc,<-fs] at i1
  have bn:Nat.ble h.next h1.next=true:=Ze1 k1.1
  have dd:decide ((j:Int)<64)=true:=decide_eq_true oM
  have e1:(((k+1:Nat):Int)) - 1=(k:Int):=oM
  obtain⟨G,hG⟩:=xzE (Yq (V z) (4 * j))
  rw[hG] at cP cT
  have Jf:=Yw @t1 @t4 @t8 @t30 @dd @e1 @gt @Zjn @bn
  iterate 11 (first|apply Zu|apply Ye|apply Jc|apply J8|refine Goes.Zl Zfp ?_|refine Zr Hh Za Zfp ?_)
  iterate 4 (first|apply Ye|refine Goes.Zl Zfp ?_|refine Zr Hh (Zp (Zp Za cP) cT) Zfp ?_|refine G6 Hh (Zp (Zp Za cP) cT) Zyh ?_)
  show Z7 41 none (q90 [1,1,1,1,1,1,0,1,2]) _ _ _ _
  refine (ih (j+1) _ h1 oM i1 M1 hl1 (by have:=k1.1; omega) (B.keep Hh k1) (k1.2 _ _ dl nd.1 nd.2 gd (.inr (Z4f dM))) (by have:=k1.1; omega) nd ?_ ?_ ?_ ?_).mono ?_
  ·have Jf:=@t1; exact Zn
  ·have Jf:=@t4; exact Zn
  ·have Jf:=@t8; exact Zn
  ·exact Zf
  ·rintro x1 d1 s1 h2 ⟨q1,q2,q3,q4,q5,q6⟩
   exact⟨q1,q2,q3,q4,q5,k1.then q6⟩
theorem Z78 (f:Y1 a b c e=true) (ls:Zlo n q a b c e cr md S T V l p6 lp I) (l6:l≠n+6) (p6q:p6≠n+6) (Ik:∀ L h h2,I L h->h.next<=h2.next->(∀ m,m<h.next->m≠n+6->h2.get m=h.get m)->I L h2) (p6b:∀ L h,I L h->p6<h.next):∀ lv,lv<=3->Zqw n q a b c e cr md S T V l py ps pt p6 lp I lv:=by
 have zero:∀ (lv:Nat) (h:Hq),Zi 90 [.c (.int .i64 ((0:Nat):Int)),.c (.int .i64 (lv:Int)),.c (.ptr py 0),.c (.ptr ps 0),.c (.ptr pt 0)] h (.w (.c (.bool true))) h:=fun lv h=>by
  refine fnG Hh Tryz.f90 ?_
  iterate 9 (first|apply Zu|apply Yc|refine Goes.Zl Zf ?_|refine Zr Hh Za Zf ?_)
  exact Zf
 intro lv
 induction lv with
 | zero =>
  intro _ z L h z32 _ len iI M hl ln B
  by_cases z0:z=0
  ·subst z0
   exact⟨h,zero 0 h,by rw[Ff,List.append_nil]; exact iI,M,hl,Kh.refl ..⟩
  have e0:((z:Int) == 0)=false:=U7 oM
  have tz:Rf V 0 z=[z]:=if_neg z0
  rw[tz] at len ⊢
  obtain⟨E,h1,Sd,rnd,i1,M1,hl1,k1⟩:=ls L z h (by rw[List.length_append] at len; simp at len; omega) z32 iI M hl ln
  obtain⟨gy,gs,gt,ly,ls',lt,ny,ns,nt⟩:=B
  refine⟨h1,?_,i1,M1,hl1,k1⟩
  refine fnG Hh Tryz.f90 ?_
  have Jf:=Ej @e0 @gy @rnd @hl @Zjn
  iterate 9 (first|apply Zu|apply Ye|refine Goes.Zl Zn ?_|refine Zr Hh Za Zn ?_)
  iterate 10 (first|apply Zu|apply Ye|apply Yc|refine Goes.Zl Zn ?_|refine Zr Hh Sd Zn ?_)
  exact Zf
 | succ k ihk =>
  intro k3 z L h z32 tr len iI M hl ln B
  by_cases z0:z=0
  ·subst z0
   exact⟨h,zero (k+1) h,by rw[Ff,List.append_nil]; exact iI,M,hl,Kh.refl ..⟩
  have e0:((z:Int) == 0)=false:=U7 oM
  have ek:(((k+1:Nat):Int) == 0)=false:=U7 oM
  have tz:Rf V (k+1) z=[z]++Qh V k z 64:=by
   show (if z=0 then _ else _)=_
   rw[if_neg z0]
   rfl
  rw[tz,<-List.append_assoc] at len ⊢
  obtain⟨oz,zl,tw⟩:=tr z0
  obtain⟨E,h1,Sd,rnd,i1,M1,hl1,k1⟩:=ls L z h (by rw[List.length_append,List.length_append] at len; simp at len; omega) z32 iI M hl ln
  have B1:=B.keep Hh k1
  have BB:=B1
  obtain⟨gy,gs,gt,ly,ls',lt,ny,ns,nt⟩:=B
  obtain⟨gy1,gs1,gt1,ly1,ls1,lt1,_,_,_⟩:=BB
  obtain⟨hG,eG,MG,nG,rG⟩:=M1.get f oz zl
  have c7:=Eu Hh eG
  have vl:=M1.len oz zl
  have Yl:(pgL (V z)).length=256:=by rw[Oz,vl]
  obtain⟨Y,hY⟩:=xzE (pgL (V z))
  rw[hY] at c7 Yl
  refine Fz ?_
  refine Y0 Hh Tryz.f90 ?_
  have Jf:=Lg @e0 @ek @gy @rnd @hl @Zjn @gs1 @Yl
  iterate 9 (first|apply Zu|apply Ye|refine Goes.Zl Z0 ?_|refine Zr Hh Za Z0 ?_)
  iterate 9 (first|apply Zu|apply Ye|refine Goes.Zl Z0 ?_|refine Zr Hh Sd Z0 ?_)
  iterate 3 (first|apply Zu|refine Zr Hh (Zp Za c7) Z0 ?_)
  refine Ow fun hA eA=>?_
  have nA:hA.next=h1.next+1:=by rw[eA]; simp only[H.Zb,H.Zc,nG]
  have kA:∀ m,m<h1.next->m≠n+6->hA.get m=h1.get m:=fun m hm hne=>by rw[eA]; refine Eq.trans ?_ (rG m hm hne); exact Jg
  have bA:hA.get h1.next=some (.row 256 [Y] false):=by rw[eA,<-nG]; exact Z0
  have MA:=MG.keep (h2:=hA) oM (fun m hm=>by have:=MG.nx; rw[eA]; exact Jg)
  clear eA
  have nB:=k1.1
  have kkA:Kh n p6 h1 hA:=Kh.of oM kA
  have p6l:=p6b _ _ i1
  iterate 7 (first|apply Zu|apply Ye|apply Jc|refine Goes.Zl Z0 ?_|refine Zr Hh Za Z0 ?_)
  refine (Z0z Hh (k:=k) (z:=z) (pd:=h1.next) oM vl (ihk oM) tw len 64 0 _ hA oM (by rw[show Qh V k z 0=[] from rfl,List.append_nil]; exact Ik _ _ _ i1 oM kA) MA ((kA l oM l6).trans hl1) oM (B1.keep Hh kkA) (by rw[hY]; exact bA) oM ⟨by have:=M1.nx; omega,oM⟩ ?_ ?_ ?_ ?_).mono ?_
  ·exact Zf
  ·exact Zf
  ·have Jf:=@nG; exact Zn
  ·exact Zf
  rintro x ds' ts' h2 ⟨rfl,rfl,i2,M2,hl2,k2⟩
  iterate 3 (first|apply Zu|apply Yc|refine Zr Hh Za Z0 ?_)
  exact⟨_,_,Zf,rfl,i2,M2,hl2,k1.then (kkA.then k2)⟩
end
def allT (V:Nat->Lq) (P:Nat->Nat) (m:Nat):Lq:=(List.range m).flatMap fun p=>Rf V (Rq p) (P p)
theorem Zju (V:Nat->Lq) (P:Nat->Nat) (m:Nat):allT V P (m+1)=allT V P m++Rf V (Rq m) (P m):=by
 unfold allT
 rw[List.range_succ,List.flatMap_append]
 simp
theorem Zx5 (V:Nat->Lq) (P:Nat->Nat) {j m:Nat} (h:j<=m):(allT V P j).length<=(allT V P m).length:=by
 induction h with
 | refl=>exact Nat.le_refl _
 | step _ ih=>rw[Zju,List.length_append]; omega
section
variable (Hh:Hearts K Tryz.prog)
include Hh
variable {n q a b c e:Nat} {cr:Cr} {md:Int} {S T:Lq} {V:Nat->Lq} {l py ps pt p6:Nat} {lp:O} {I:Lq->Hq->Prop} {x:List C} {P:Nat->Nat}
theorem Zzf (X:InoP x P) (tk:∀ lv,lv<=3->Zqw n q a b c e cr md S T V l py ps pt p6 lp I lv) (tr:∀ p,p<11->Wn a b c e V (Rq p) (P p)) (len:(allT V P 11).length<=2048):∀ (r j:Nat) (ts:Zw) (h:Hq),j+r=11->I (allT V P j) h->HE n q a b c e cr md S T V h->h.get l=some lp->l<h.next->TellB n l py ps pt p6 h ->
  Ze ts 4=.w (.c (.ptr pt 0))->Ze ts 9=.w (.g ((x.drop 4).take 11))->Ze ts 10=.w (.c (.int .i64 (j:Int))) ->
  Z7 22 none (q89 [1,1,1,1,2]) [] ts h fun x' ds' ts' h'=>x'=.exit 0/\ds'=[]/\I (allT V P 11) h'/\HE n q a b c e cr md S T V h'/\h'.get l=some lp/\Kh n p6 h h':=by
 have xl:=X.xl
 have Al:((x.drop 4).take 11).length=11:=by rw[List.length_take,List.length_drop,xl]; rfl
 obtain⟨A,hA⟩:=xzE ((x.drop 4).take 11)
 have ax:∀ j,j<11->A[j]? = some (.int .u32 (P j:Nat)):=fun j hj=>by
  rw[<-hA,List.getElem?_take_of_lt hj,List.getElem?_drop]
  exact X.pt j hj
 rw[hA] at Al ⊢
 intro r
 induction r with
 | zero =>
  intro j ts h hj iI M hl ln B t4 t9 t10
  obtain rfl:j=11:=oM
  have Jf:=@t10
  iterate 6 (first|apply Zu|apply Gr|apply J8|refine Goes.Zl Zn ?_|refine Zr Hh Za Zn ?_)
  exact⟨rfl,rfl,iI,M,hl,Kh.refl ..⟩
 | succ r ih =>
  intro j ts h hj iI M hl ln B t4 t9 t10
  have j11:j<11:=oM
  have B':=B
  obtain⟨gy,gs,gt,ly,ls,lt,ny,ns,nt⟩:=B'
  have fs:=Zju V P j
  have fl:=Zx5 V P (show j+1<=11 by omega)
  have pb:=X.pb j j11
  obtain⟨h1,cT,i1,M1,hl1,k1⟩:=tk (Rq j) (by unfold Rq; omega) (P j) (allT V P j) h pb (tr j j11) (by rw[<-fs]; omega) iI M hl ln B
  rw[<-fs] at i1
  have ix:=ax j j11
  have cL:Zi 31 [.c (.int .i64 (j:Int))] h (.w (.c (.int .i64 ((Rq j:Nat):Int)))) h:=by
   have e1:(if (j:Int)<8 then (0:Int) else (j:Int) - 7)=((Rq j:Nat):Int):=by
    unfold Rq
    split<;>omega
   refine Zxi Hh ?_
   rw[<-e1]
   exact Zq.2 ⟨by simp only[aQ,decide_eq_true_eq]; omega,rfl⟩
  obtain⟨lv,hlv⟩:=xzE (Rq j)
  rw[hlv] at cL cT
  have bn:Nat.ble h.next h1.next=true:=Ze1 k1.1
  have dd:decide ((j:Int)<11)=true:=decide_eq_true oM
  obtain⟨z,hz⟩:=xzE (P j)
  rw[hz] at ix pb cT
  iterate 11 (first|apply Zu|apply Ye|apply Jc|apply J8|((first|apply Goes.Zl|apply Goes.ops2 fits Hh Za); · simp (maxSteps:=9^6) +decide (disch:=first|exact dZ|fail) only [go_sem,Zk,Zh,simprocAttr,t4,t9,t10,dd,gt,Zjn,bn,ix,Al,pb,F6,Zgf,Xj]<;>rfl))
  iterate 4 (first|apply Ye|((first|apply Goes.Zl|apply Goes.ops2 fits Hh (Zp (Zp Za cL) cT)); · simp (maxSteps:=9^6) +decide (disch:=first|exact dZ|fail) only [go_sem,Zk,Zh,simprocAttr,Z4,t4,t9,t10,dd,gt,Zjn,bn,ix,Al,pb,F6,Zgf,Xj]<;>rfl)|(apply Goes.drawn2 fits Hh (Zp (Zp Za cL) cT) kR; · simp (maxSteps:=9^6) +decide (disch:=first|exact dZ|fail) only [go_sem,Zk,Zh,simprocAttr,drG,Z4,t4,t9,t10,dd,gt,Zjn,bn,ix,Al,pb,F6,Zgf,Xj]<;>rfl))
  show Z7 22 none (q89 [1,1,1,1,2]) _ _ _ _
  refine (ih (j+1) _ h1 oM i1 M1 hl1 (by have:=k1.1; omega) (B.keep Hh k1) ?_ ?_ ?_).mono ?_
  ·have Jf:=@t4; exact Zn
  ·have Jf:=@t9; exact Zn
  ·exact Zf
  ·rintro x1 d1 s1 h2 ⟨q1,q2,q3,q4,q5,q6⟩
   exact⟨q1,q2,q3,q4,q5,k1.then q6⟩
theorem Z64 (f:Y1 a b c e=true) (X:InoP x P) (ls:Zlo n q a b c e cr md S T V l p6 lp I) (l6:l≠n+6) (p6q:p6≠n+6) (Ik:∀ L h h2,I L h->h.next<=h2.next->(∀ m,m<h.next->m≠n+6->h2.get m=h.get m)->I L h2) (p6b:∀ L h,I L h->p6<h.next) (tr:∀ p,p<11->Wn a b c e V (Rq p) (P p)) (len:(allT V P 11).length<=2048) {px:Nat} {h:Hq} (iI:I [] h) (M:HE n q a b c e cr md S T V h) (hl:h.get l=some lp) (ln:l<h.next) (gs:h.get ps=some (.row 1 [[.ptr (n+13) 0]] false)) (lps:ps<h.next) (ns:ps≠n+6/\ps≠p6) (gx:h.get px=some (.row 16 [x] false)) (lpx:px<h.next) :
  ∃ v h',Zi 89 [.c (.yield l),.c (.ptr ps 0),.c (.ptr px 0)] h v h'/\I (allT V P 11) h'/\HE n q a b c e cr md S T V h'/\h'.get l=some lp/\Kh n p6 h h':=by
 obtain⟨nq,nx,n0⟩:=M.nx
 have xl:=X.xl
 have p6l:=p6b _ _ iI
 have rA:Zk 16 [x] 4 11=some ((x.drop 4).take 11):=by
  show (bif Nat.ble (4+11) x.length then _ else none)=_
  rw[xl]
  rfl
 have lp':=Zzf Hh (n:=n) (q:=q) (a:=a) (b:=b) (c:=c) (e:=e) (cr:=cr) (md:=md) (S:=S) (T:=T) (l:=l) (py:=h.next) (ps:=ps) (pt:=h.next+1) (p6:=p6) (lp:=lp) (I:=I) X (fun lv hlv=>Z78 Hh f ls l6 p6q Ik p6b lv hlv) tr len
 have Al:((x.drop 4).take 11).length=11:=by rw[List.length_take,List.length_drop,xl]; rfl
 obtain⟨A,hA⟩:=xzE ((x.drop 4).take 11)
 rw[hA] at rA lp' Al
 refine Y0 Hh Tryz.f89 ?_
 iterate 9 (first|apply Zu|apply Jc|(apply Goes.ops2 fits Hh Za; · simp (maxSteps:=9^6) +decide (disch:=first|exact dZ|fail) only [go_sem,Zh,simprocAttr,gx,rA,Al,Zjn,Yy,Bh,Gm,ptrs,Xj]<;>rfl))
 refine Ow fun hA eA=>?_
 have nA:hA.next=h.next+2:=nxQ eA
 have kA:∀ m,m<h.next->hA.get m=h.get m:=kQ eA
 have by':hA.get h.next=some (.row 1 [[.yield l]] false):=by rw[eA]; exact Y6
 have bt':hA.get (h.next+1)=some (.row 1 [[.fn 90 [] [some (h.next,0),some (ps,0),some (h.next+1,0)]]] false):=by rw[eA]; exact Y6
 clear eA
 have kk:Kh n p6 h hA:=Kh.of oM fun m hm _=>kA m hm
 refine (lp' 11 0 _ hA rfl (Ik _ _ _ iI oM fun m hm _=>kA m hm) (M.keep oM fun m hm=>kA m oM) ((kA l ln).trans hl) oM ⟨by',(kA ps lps).trans gs,bt',oM,oM,oM,⟨oM,oM⟩,ns,⟨oM,oM⟩⟩ ?_ ?_ ?_).mono ?_
 ·exact Zf
 ·exact Zf
 ·exact Zf
 rintro x1 ds1 ts1 h1 ⟨rfl,rfl,i1,M1,hl1,k1⟩
 show ∃ v h',leave K Tryz.f89 (some (Out.at Go.Ev.X.normal [] ts1 h1))=some (Out.val v h')/\_
 exact⟨_,_,Zf,i1,M1,hl1,kk.then k1⟩
end
def SlB (b:Nat) (h:Hq) (c:C) (l:Lq):Prop:=SlI h c l/\∀ p o n z,c=.slice p o n z->b<=p/\p<h.next
theorem SlB.mono {b b':Nat} {h:Hq} {c:C} {l:Lq} (s:SlB b h c l) (le:b'<=b):SlB b' h c l:=⟨s.1,fun p o n z e=>⟨Nat.le_trans le (s.2 p o n z e).1,(s.2 p o n z e).2⟩⟩
theorem SlB.keep {b:Nat} {h h':Hq} {c:C} {l:Lq} (s:SlB b h c l) (nx:h.next<=h'.next) (k:∀ p,b<=p->p<h.next->h'.get p=h.get p):SlB b h' c l :=
 ⟨s.1.keep fun p o n z e=>k p (s.2 p o n z e).1 (s.2 p o n z e).2,fun p o n z e=>by
  have:=s.2 p o n z e
  omega⟩
theorem Z3s {b:Nat} {h:Hq} {c:C} {l:Lq} (s:SlB b h c l) (bh:b<=h.next) (hl:l.length<=4000) (x:Nat):∃ c' h',Oh (h.new (.row 1 [[.int .i64 (x:Int)]] false)) (some ti3) c (.slice h.next 0 1 1)=some (.w (.c c'),h')/\SlB b h' c' (l++[x])/\h.next<=h'.next/\∀ p,p<b->h'.get p=h.get p:=by
 obtain⟨s,sb⟩:=s
 rcases s with ⟨rfl,rfl⟩|⟨p,p1,rfl,pp⟩
 ·refine⟨_,_,Zzd _,⟨.inr ⟨h.next+1,by simp,rfl,?_⟩,fun p o n z e=>?_⟩,?_,fun p hp=>?_⟩
  ·rw[Ob (by simp only[H.Zc]<;>omega)]; rfl
  ·cases e; simp only[H.Zc]; omega
  ·simp only[H.Zc]; omega
  ·rw[Yi (by simp only[H.Zc]; omega),Yi oM]
 ·have sb':=sb p 0 _ _ rfl
  have ap:=Z5p (h:=h) (L:=rwI l) [.int .i64 (x:Int)] pp sb'.2 (by rw[Sb]; exact hl)
  rw[Sb] at ap
  refine⟨_,_,ap,⟨.inr ⟨h.next+1,by simp,by rw[List.length_append]; rfl,?_⟩,fun p o n z e=>?_⟩,?_,fun p hp=>?_⟩
  ·rw[<-Zp6,Ob (by simp only[H.Zc,H.Yp]<;>omega)]
  ·cases e; simp only[H.Zc,H.Yp]; omega
  ·simp only[H.Zc,H.Yp]; omega
  ·rw[Yi (by simp only[H.Zc,H.Yp]; omega),Dq oM,Yi oM]
theorem Z9j {b:Nat} {h:Hq} {c:C} {l:Lq} (s:SlB b h c l) (bh:b<=h.next) (hl:l.length<=4000) (x:Nat):∃ c' h',Oh (h.new (.row 1 [[.int .i64 (x:Int)]] false)) (some ti3) c (.slice h.next 0 1 1)=some (.w (.c c'),h')/\SlB b h' c' (l++[x])/\h.next<=h'.next/\∀ p,p<h.next->(∀ o k z,c≠.slice p o k z)->h'.get p=h.get p:=by
 obtain⟨s,sb⟩:=s
 rcases s with ⟨rfl,rfl⟩|⟨p,p1,rfl,pp⟩
 ·refine⟨_,_,Zzd _,⟨.inr ⟨h.next+1,by simp,rfl,?_⟩,fun p o n z e=>?_⟩,?_,fun p hp _=>?_⟩
  ·rw[Ob (by simp only[H.Zc]<;>omega)]; rfl
  ·cases e; simp only[H.Zc]; omega
  ·simp only[H.Zc]; omega
  ·rw[Yi (by simp only[H.Zc]; omega),Yi oM]
 ·have sb':=sb p 0 _ _ rfl
  have ap:=Z5p (h:=h) (L:=rwI l) [.int .i64 (x:Int)] pp sb'.2 (by rw[Sb]; exact hl)
  rw[Sb] at ap
  refine⟨_,_,ap,⟨.inr ⟨h.next+1,by simp,by rw[List.length_append]; rfl,?_⟩,fun p o n z e=>?_⟩,?_,fun p' hp ne=>?_⟩
  ·rw[<-Zp6,Ob (by simp only[H.Zc,H.Yp]<;>omega)]
  ·cases e; simp only[H.Zc,H.Yp]; omega
  ·simp only[H.Zc,H.Yp]; omega
  ·have:p'≠p:=fun e=>ne _ _ _ (by rw[e])
   rw[Yi (by simp only[H.Zc,H.Yp]; omega),Dq this,Yi oM]
noncomputable def q11 (p:Lq):Code:=piece p (Ug Tryz.f11)
theorem Zr3:q11 [1,1,1,0,1,2]=.rangeFunc (.tmp 14) #[15,16] (q11 [1,1,1,0,1,2,5]) (q11 [1,1,1,0,1,2,6]):=kR
theorem Zpu:q11 [1,1,1,0,1,2,5]=.seq (q11 [1,1,1,0,1,2,5,0]) (q11 [1,1,1,0,1,2,5,1]):=kR
theorem Zpv:q11 [1,1,1,0,1,2,6]=.block 1 (q11 [1,1,1,0,1,2,6,2]):=kR
theorem rs11:Tryz.f11.results.toList=[.cell 4 40,.cell 5 31]:=rfl
attribute [go_sem] rs11
def Zi8 (p6:Nat) (L:Lq) (h:Hq):Prop:=p6<h.next/\∃ s,h.get p6=some (.row 1 [[s]] false)/\SlB (p6+1) h s L
theorem Zi8.keep {p6:Nat} {L:Lq} {h h2:Hq} (J:Zi8 p6 L h) (nn:h.next<=h2.next) (k:∀ m,p6<=m->m<h.next->h.get m=some (.row 1 (rwI L) false)\/m=p6->h2.get m=h.get m):Zi8 p6 L h2:=by
 obtain⟨p6l,s,g,sl,sb⟩:=J
 refine⟨oM,s,(k p6 (Nat.le_refl _) p6l (.inr rfl)).trans g,?_,fun p o n z e=>?_⟩
 ·rcases sl with w|⟨p,a1,a2,a3⟩
  ·exact .inl w
  ·have b:=sb p 0 _ _ a2
   exact .inr ⟨p,a1,a2,(k p oM b.2 (.inl a3)).trans a3⟩
 ·have:=sb p o n z e
  omega
section
variable (Hh:Hearts K Tryz.prog)
include Hh
variable {n q a b c e:Nat} {cr:Cr} {md:Int} {S T:Lq} {V:Nat->Lq} {h:Hq} {x:List C} {P:Nat->Nat}
theorem maA (lq:Nat) (ts:Zw) (z:Nat) (h:Hq):Z7 28 (some lq) (q11 [1,1,1,0,1,2,5]) [] ((ts.set 15 (.w (.c (.int .i64 (z:Int))))).set 16 (.w (.c (.int .i64 0)))) h fun x ds' ts' h'=>x=.normal/\ds'=[]/\h'=h/\Ze ts' 7=.w (.c (.int .i64 (z:Int)))/\Ze ts' 8=.w (.c (.int .i64 0))/\Ze ts' 6=Ze ts 6:=by
 iterate 3 (first|apply Zu|refine Zr Hh Za Zf ?_)
 refine⟨rfl,rfl,rfl,?_,?_,?_⟩
 ·exact Zf
 ·exact Zf
 ·exact Zf
theorem maB (M:HE n q a b c e cr md S T V h) {p6 l z:Nat} {L:Lq} {ts:Zw} (bq:q+9<=p6) (pl:p6<l) (L2:L.length<2048) (t6:Ze ts 6=.w (.c (.ptr p6 0))) (t7:Ze ts 7=.w (.c (.int .i64 (z:Int)))) (t8:Ze ts 8=.w (.c (.int .i64 0))) (J:Zi8 p6 L h) (hl:∃ lo,h.get l=some lo/\Zn2 lo) (ll:l<h.next) :
  Z7 28 (some l) (q11 [1,1,1,0,1,2,6]) [] ts h fun x' _ _ h'=>x'=.normal/\h'.get l=h.get l/\Zi8 p6 (L++[z]) h'/\HE n q a b c e cr md S T V h'/\Kh n p6 h h':=by
 obtain⟨p6l,s,g6,sl⟩:=J
 obtain⟨lo,hl1,hl2⟩:=hl
 obtain⟨nq,nx,n0⟩:=M.nx
 obtain⟨c',hD,ap,sD,nD,kD⟩:=Z9j sl oM oM z
 have ne:∀ m o,h.get m=some o->Zn2 o->∀ o' k z',s≠.slice m o' k z':=fun m o g w o' k z' e=>by
  subst e
  rcases sl.1 with ⟨_,w2⟩|⟨p,_,w2,w3⟩
  ·cases w2
  ·cases w2
   rw[g] at w3
   cases w3
   exact w _ rfl
 have neL:∀ m,m<p6+1->∀ o k z,s≠.slice m o k z:=fun m hm o k z e=>by have:=(sl.2 m o k z e).1; omega
 have D6:=(kD p6 p6l (neL p6 oM)).trans g6
 have sf:=Yaa sl.1
 have sf1:=Zm8
 obtain⟨lf,ln⟩:=Zrs sl.1
 have e1:((L.length:Int) == 2048)=false:=U7 oM
 obtain⟨Ll,hLl⟩:=xzE (L.length)
 rw[hLl] at e1 ln
 iterate 12 (first|apply Zu|apply Ye|apply Jc|((first|apply Goes.Zl|apply Goes.ops2 fits Hh Za); · simp (maxSteps:=9^6) +decide (disch:=first|exact dZ|fail) only [go_sem,Zk,Zh,simprocAttr,t6,t7,t8,g6,Zjn,e1,sf,sf1,Zyo,ap,D6,lf,ln,Zt]<;>rfl))
 refine⟨rfl,?_,⟨?_,c',?_,?_⟩,M.keep ?_ fun m hm=>?_,?_,fun m o hm h6 hp g w=>?_⟩
 ·rw[Zd oM]; exact kD _ ll (ne _ _ hl1 hl2)
 ·rw[H.Zb]; omega
 ·exact Zx ..
 ·exact⟨sD.1.keep fun p o k z e=>Zd (by have:=(sD.2 p o k z e).1; omega),fun p o k z e=>by rw[H.Zb]; exact sD.2 p o k z e⟩
 ·rw[H.Zb]; omega
 ·rw[Zd oM]; exact kD m oM (neL m oM)
 ·rw[H.Zb]; omega
 ·rw[Zd hp]; exact (kD m hm (w.elim (fun w=>neL m oM) (ne _ _ g))).trans g
theorem Yaw {p6 l dd:Nat} {ts:Zw} (bq:q+9<=p6) (pl:p6<l) (t6:Ze ts 6=.w (.c (.ptr p6 0))):Zlo n q a b c e cr md S T V l p6 (.loop ts 28 [15,16] (q11 [1,1,1,0,1,2,5]) (q11 [1,1,1,0,1,2,6]) .ready none dd) (Zi8 p6):=by
 intro L z h L2 z32 J M hl ln
 obtain⟨nq,nx,n0⟩:=M.nx
 have ne:(q11 [1,1,1,0,1,2,6])≠(q11 [1,1,1,0,1,2,5]):=fun e1=>by
  rw[Zpv,Zpu] at e1
  cases e1
 have nb:∀ st,Zn2 (.loop ts 28 [15,16] (q11 [1,1,1,0,1,2,5]) (q11 [1,1,1,0,1,2,6]) st none dd):=fun st=>Zwg
 obtain⟨E2,h2,Sd,rnd,J2,M2,kk⟩:=Zkq (l:=l) (nt:=28) (ts:=ts) (ps:=[15,16]) (A:=q11 [1,1,1,0,1,2,5]) (B:=q11 [1,1,1,0,1,2,6]) (dd:=dd) (J:=fun ts' h'=>h'=h/\Ze ts' 7=.w (.c (.int .i64 (z:Int)))/\Ze ts' 8=.w (.c (.int .i64 0))/\Ze ts' 6=.w (.c (.ptr p6 0)))
  (Q:=fun h2=>Zi8 p6 (L++[z]) h2/\HE n q a b c e cr md S T V h2/\Kh n p6 (h.put l (.loop ts 28 [15,16] (q11 [1,1,1,0,1,2,5]) (q11 [1,1,1,0,1,2,6]) .busy none dd)) h2) ne (us:=[.c (.int .i64 (z:Int)),.c (.int .i64 0)]) (tz:=(ts.set 15 (.w (.c (.int .i64 (z:Int))))).set 16 (.w (.c (.int .i64 0)))) rfl hl
  ((maA Hh l ts z h).mono fun x' ds' ts' h' ⟨e1,e2,e3,t7,t8,u6⟩=>⟨e1,e2,by rw[e3],e3,t7,t8,u6.trans t6⟩)
  (fun ts' h' ⟨e3,t7,t8,u6⟩=>by
   subst e3
   refine (maB Hh (M.keep (h2:=h'.put l _) (by rw[H.Zb]; omega) fun m hm=>Zd oM) bq pl L2 u6 t7 t8 (J.keep (by rw[H.Zb]; omega) fun m _ _ w=>Zd fun e=>?_) ⟨_,Zx ..,nb _⟩ (by rw[H.Zb]; exact ln)).mono fun x2 _ _ h2 ⟨e1,e9,J2,M2,k2⟩=>⟨e1,e9.trans (Zx ..),J2,M2,k2⟩
   rcases w with w|w
   ·rw[e,hl] at w; cases w
   ·omega)
 have n2:=kk.1
 rw[H.Zb] at n2
 have fin:∀ m o,m<h.next->m≠n+6->m≠p6->h.get m=some o->(m<p6\/Zn2 o)->m≠l->h2.get m=some o:=fun m o hm h6 hp g w ml=>kk.2 m o (by rw[H.Zb]; exact hm) h6 hp (by rw[Zd ml]; exact g) w
 refine⟨E2,_,Sd,rnd,J2.keep (by rw[H.Zb]; omega) fun m _ _ w=>Zd fun e=>?_,M2.keep (by rw[H.Zb]; omega) fun m hm=>Zd oM,Zx ..,by rw[H.Zb]; omega,fun m o hm h6 hp g w=>?_⟩
 ·rcases w with w|w
  ·have:=kk.2 l _ (by rw[H.Zb]; exact ln) oM oM (Zx ..) (.inr (nb _))
   rw[e,this] at w
   cases w
  ·omega
 ·by_cases ml:m=l
  ·subst ml
   rw[hl] at g
   cases g
   exact Zx ..
  ·rw[Zd ml]
   exact fin m o hm h6 hp g w ml
theorem Z7i (f:Y1 a b c e=true) (X:InoP x P) (tr:∀ p,p<11->Wn a b c e V (Rq p) (P p)) (len:(allT V P 11).length<=2048) {ts:Zw} {hC:Hq} {b1 p6 ps px:Nat} (M:HE n q a b c e cr md S T V hC) (nC:hC.next=b1) (bq:q+9<=p6) (b6:p6<b1) (b7:ps<b1/\p6<ps) (b8:px<b1) (t6:Ze ts 6=.w (.c (.ptr p6 0))) (eg:Zz K ts (.tmp 14)=some (.fn 89 [] [some (ps,0),some (px,0)])) (g6:hC.get p6=some (.row 1 [[.snil]] false)) (gs:hC.get ps=some (.row 1 [[.ptr (n+13) 0]] false)) (gx:hC.get px=some (.row 16 [x] false)) :
  Z7 28 none (q11 [1,1,1,0,1,2]) [] ts hC fun x' ds' ts' h'=>x'=.normal/\ts'=ts/\ds'=[b1]/\h'.get b1=some .defers/\Zi8 p6 (allT V P 11) h'/\HE n q a b c e cr md S T V h'/\b1+2<=h'.next/\Kh n p6 hC h':=by
 obtain⟨nq,nx,n0⟩:=M.nx
 rw[Zr3]
 obtain⟨lp,hlp⟩:∃ lp,lp=O.loop ts 28 [15,16] (q11 [1,1,1,0,1,2,5]) (q11 [1,1,1,0,1,2,6]) .ready none b1:=⟨_,rfl⟩
 have gl:((hC.new .defers).new lp).get (b1+1)=some lp:=Ob (by rw[H.Zc]; omega)
 have gd:((hC.new .defers).new lp).get b1=some .defers:=by rw[Yi (by rw[H.Zc]; omega),Ob oM]
 have gk:∀ p,p<b1->((hC.new .defers).new lp).get p=hC.get p:=fun p hp=>by rw[Yi (by rw[H.Zc]; omega),Yi oM]
 have nx2:((hC.new .defers).new lp).next=b1+2:=by simp only[H.Zc]; omega
 have ls:Zlo n q a b c e cr md S T V (b1+1) p6 lp (Zi8 p6):=by
  rw[hlp]
  exact Yaw Hh bq oM t6
 obtain⟨v,h3,cc,J,M3,g9,k3⟩:=Z64 Hh (n:=n) (q:=q) (a:=a) (b:=b) (c:=c) (e:=e) (cr:=cr) (md:=md) (S:=S) (T:=T) (V:=V) (l:=b1+1) (ps:=ps) (p6:=p6) (lp:=lp) (I:=Zi8 p6) (h:=(hC.new .defers).new lp) f X ls oM oM (fun L h h2 J nn k=>J.keep nn fun m hm hl _=>k m hl oM) (fun L h J=>J.1) tr len
  ⟨oM,.snil,(gk p6 b6).trans g6,.inl ⟨rfl,rfl⟩,fun p o n z e=>by cases e⟩ (M.keep oM fun m hm=>gk m oM) gl oM ((gk ps b7.1).trans gs) oM ⟨oM,oM⟩ ((gk px b8).trans gx) oM
 have n3:=k3.1
 refine Goes.Zm5 fits Hh (f:=89) (first:=[]) (caps:=[some (ps,0),some (px,0)]) eg ⟨v,h3,?_,?_⟩
 ·rw[nC]
  subst hlp
  exact cc
 ·rw[nC]
  subst hlp
  refine⟨_,_,_,_,_,_,_,_,g9,by simp,?_⟩
  show _/\_/\_
  refine⟨rfl,rfl,rfl,?_,J.keep (by rw[H.Zb]; omega) fun m _ _ w=>Zd fun e=>?_,M3.keep (by rw[H.Zb]; omega) fun m hm=>Zd oM,by rw[H.Zb]; omega,by rw[H.Zb]; omega,fun m o hm h6 hp g w=>?_⟩
  ·rw[Zd oM]
   exact k3.2 b1 _ oM oM oM gd (.inr fun X e=>by cases e)
  ·rcases w with w|w
   ·rw[e,g9] at w; cases w
   ·omega
  ·rw[Zd oM]
   exact k3.2 m o oM h6 hp ((gk m oM).trans g) w
theorem Z7g (f:Y1 a b c e=true) (m0:md≠0) (M:HE n q a b c e cr md S T V h) (X:InoP x P) (tr:∀ p,p<11->Wn a b c e V (Rq p) (P p)) (len:(allT V P 11).length<=2048) :
  ∃ cs h',Zi 11 [.c (.ptr (n+13) 0),.g x] h (.tup [.c cs,.c (.int .i64 0)]) h'/\SlB h.next h' cs (allT V P 11)/\HE n q a b c e cr md S T V h'/\h.next<=h'.next/\∀ m o,m<h.next->m≠n+6->h.get m=some o->h'.get m=some o:=by
 obtain⟨nq,nx,n0⟩:=M.nx
 obtain⟨st,⟨kn,hs⟩,⟨dk,gl⟩,ht⟩:=M.cells
 unfold gdL gdD at gl
 have dm:(md != 0)=true:=Zhp m0
 have xl:=X.xl
 obtain⟨b1,hb1⟩:=xzE (h.next)
 obtain⟨v,h',cc,cs,rfl,qq⟩:∃ v h',Zi 11 [.c (.ptr (n+13) 0),.g x] h v h'/\∃ cs,v=.tup [.c cs,.c (.int .i64 0)]/\SlB h.next h' cs (allT V P 11)/\HE n q a b c e cr md S T V h'/\h.next<=h'.next/\∀ m o,m<h.next->m≠n+6->h.get m=some o->h'.get m=some o:=by
  refine Y0 Hh Tryz.f11 ?_
  have Jf:=Nt @f @hs @gl @dm @xl @Zjn
  iterate 13 (first|apply Zu|apply Ye|apply Jc|refine Goes.Zl Ji ?_|refine Zr Hh (EY (EY Za (Vk Hh)) (Z1e Hh)) Ji ?_)
  refine Ow fun hC eC=>?_
  have nC:hC.next=b1+6:=by rw[eC]; simp only[H.Zb,H.Zc,hb1]
  have kC:∀ m,m<h.next->hC.get m=h.get m:=kQ eC
  have g1:hC.get (b1+1)=some (.row 1 [[.snil]] false):=by rw[eC,<-hb1]; exact Y6
  have g2:hC.get (b1+2)=some (.row 1 [[.int .i64 0]] false):=by rw[eC,<-hb1]; exact Y6
  have g3:hC.get (b1+3)=some (.row 1 [[.snil]] false):=by rw[eC,<-hb1]; exact Y6
  have g4:hC.get (b1+4)=some (.row 1 [[.ptr (n+13) 0]] false):=by rw[eC,<-hb1]; exact Y6
  have g5:hC.get (b1+5)=some (.row 16 [x] false):=by rw[eC,<-hb1]; exact Y6
  clear eC
  refine Zfl fun ts hts=>?_
  have t6:Ze ts 6=.w (.c (.ptr (b1+3) 0)):=by rw[hts,<-hb1]; exact Zf
  have eg:Zz K ts (.tmp 14)=some (.fn 89 [] [some (b1+4,0),some (b1+5,0)]):=by
   rw[hts,<-hb1]
   exact Zf
  refine (Z7i Hh (p6:=b1+3) (ps:=b1+4) (px:=b1+5) f X tr len (M.keep oM fun m hm=>kC m oM) nC oM oM ⟨oM,oM⟩ oM t6 eg g3 g4 g5).mono ?_
  rintro x1 ds1 ts1 h1 ⟨rfl,rfl,rfl,gd,J,M1,n1,k1⟩
  subst hts
  obtain⟨p6l,cs,c1',sl⟩:=J
  have r1:=k1.2 (b1+1) _ oM oM oM g1 (.inl oM)
  have r2:=k1.2 (b1+2) _ oM oM oM g2 (.inl oM)
  have Jf:=Ju @f @hs (Yw @gl @dm @xl @Zjn @gd @c1' @r1 @r2 @hb1)
  iterate 3 (first|apply Zu|apply Yc|refine Zr Hh Za Ji ?_)
  refine⟨_,_,Zn,cs,rfl,?_,M1.keep ?_ fun m hm=>?_,?_,fun m o hm m6 g=>?_⟩
  ·refine⟨?_,fun p o n z e=>?_⟩
   ·rcases sl.1 with w|⟨p,a1',a2',a3'⟩
    ·exact .inl w
    ·have:=sl.2 p 0 _ _ a2'
     exact .inr ⟨p,a1',a2',by rw[Dq (fun w=>by rw[w,gd] at a3'; cases a3'),Zd oM,Zd oM]; exact a3'⟩
   ·have:=sl.2 p o n z e
    simp only[H.Zb,H.Yp]<;>omega
  ·simp only[H.Zb,H.Yp]<;>omega
  ·exact Jg
  ·simp only[H.Zb,H.Yp]<;>omega
  ·refine Eq.trans ?_ (k1.2 m o oM m6 oM ((kC m hm).trans g) (.inl oM)); exact Jg
 exact⟨cs,h',cc,qq⟩
end
end
end Go.Proofs.YteiljiijagmonaaGreatDoor
