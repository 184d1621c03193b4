/- paths.Of: the ways to the first blocks of a file, by the kernel. -/
import Derived.Test.YtmanipmhebgdbaaGreatDoorSli
set_option maxRecDepth 100000
set_option maxHeartbeats 4000000
set_option linter.unusedSimpArgs false
set_option linter.unusedVariables false
set_option linter.unusedSectionVars false
namespace Go.Proofs.YtmanipmhebgdbaaGreatDoor
open Go.Ev
noncomputable section
def Lb (i:Nat):Nat × Lq:=if i<8 then (i,[]) else if i<72 then (8,[i - 8]) else (9,[(i - 72) / 64,(i - 72) % 64])
def okI:Lq->List (List C)->Bool
 | [],r=>r.isEmpty
 | x :: l,r=>match r with
  | [.int .i64 a] :: r'=>decide (a=(x:Int))&&okI l r'
  | _=>false
theorem Z13:∀ {l:Lq} {r:List (List C)},okI l r=true->r=rwI l
 | [],r,h=>List.isEmpty_iff.1 h
 | x :: l,r,h=>by
  unfold okI at h
  split at h
  ·rename_i a r'
   rw[aQ] at h
   rw[Z13 h.2,show a=(x:Int) from of_decide_eq_true h.1]
   rfl
  ·cases h
def ofC (i:Nat):Bool:=match Z2t (evX K x00 5000 (.call 218 [.c (.int .i64 (i:Int))] ⟨.nil,1⟩)) with
 | some (p,r)=>decide (p=((Lb i).1:Nat))&&okI (Lb i).2 r
 | none=>false
theorem Yed:(List.range 22).all (fun k=>ofC k)=true:=kR
theorem Yee:(List.range 22).all (fun k=>ofC (22+k))=true:=kR
theorem Yef:(List.range 22).all (fun k=>ofC (44+k))=true:=kR
theorem Yeg:(List.range 22).all (fun k=>ofC (66+k))=true:=kR
theorem Yeh:(List.range 22).all (fun k=>ofC (88+k))=true:=kR
theorem Yc3 (i:Nat) (h:i<110):Z2t (evX K x00 5000 (.call 218 [.c (.int .i64 (i:Int))] ⟨.nil,1⟩))=some ((((Lb i).1:Nat):Int),rwI (Lb i).2):=by
 have c:ofC i=true:=by
  rcases Nat.lt_or_ge i 22 with w|w
  ·exact List.all_eq_true.1 Yed i (List.mem_range.2 w)
  rcases Nat.lt_or_ge i 44 with w2|w2
  ·have:=List.all_eq_true.1 Yee (i - 22) (List.mem_range.2 oM); rwa [show 22+(i - 22)=i by omega] at this
  rcases Nat.lt_or_ge i 66 with w3|w3
  ·have:=List.all_eq_true.1 Yef (i - 44) (List.mem_range.2 oM); rwa [show 44+(i - 44)=i by omega] at this
  rcases Nat.lt_or_ge i 88 with w4|w4
  ·have:=List.all_eq_true.1 Yeg (i - 66) (List.mem_range.2 oM); rwa [show 66+(i - 66)=i by omega] at this
  ·have:=List.all_eq_true.1 Yeh (i - 88) (List.mem_range.2 oM); rwa [show 88+(i - 88)=i by omega] at this
 unfold ofC at c
 split at c
 ·rename_i p r e
  rw[aQ] at c
  rw[e,Z13 c.2,show p=(((Lb i).1:Nat):Int) from of_decide_eq_true c.1]
 ·cases c
theorem Z3d {i:Nat} (h:i<110):(Lb i).1<11/\∀ w∈(Lb i).2,w<64:=by
 unfold Lb
 split
 ·exact⟨by show i<11; omega,fun w hw=>by simp at hw⟩
 ·split
  ·exact⟨by show 8<11; omega,fun w hw=>by simp at hw; omega⟩
  ·exact⟨by show 9<11; omega,fun w hw=>by simp at hw; omega⟩
section
variable (Hh:Hearts K Tryz.prog)
include Hh
theorem Yc4 {i:Nat} (hi:i<110) {h:Hq} (h0:0<h.next):∃ h' s,Zb 218 [.c (.int .i64 (i:Int))] h (.tup [.c (.int .i64 ((Lb i).1:Nat)),.c s,.c (.int .i64 0)]) h'/\h.next<=h'.next/\(∀ m,m<h.next->h'.get m=h.get m)/\SlI h' s (Lb i).2/\∀ p o n z,s=.slice p o n z->h.next<=p/\p<h'.next:=by
 obtain⟨h',s,c,n,k,r⟩:=Zx.Z5m fits Hh Zok gl (Yc3 i hi) rfl h h0
 refine⟨h',s,c,n,k,?_,fun p o l z e=>?_⟩
 ·rcases r with ⟨e,rfl⟩|⟨q,q1,q2,rfl,ho,el⟩
  ·left
   refine⟨?_,rfl⟩
   have:=congrArg List.length e
   rw[Zg1] at this
   exact List.eq_nil_of_length_eq_zero this
  ·rw[Zg1] at el ⊢
   exact .inr ⟨q,el,rfl,ho⟩
 ·rcases r with ⟨_,rfl⟩|⟨q,q1,q2,rfl,ho,el⟩
  ·cases e
  ·cases e; exact⟨q1,q2⟩
end
def Tf (md:Int) (T:Lq) (z:Nat):Lq:=if md=3 then T else z :: T
section
variable {n q a b c e:Nat} {cr:Cr} {md:Int} {h:Hq} {S T:Lq} {V:Nat->Lq}
theorem HE.more (M:HE n q a b c e cr md S T V h) {T':Lq} (s:∀ z∈T,z∈T'):HE n q a b c e cr md S T' V h:=by
 obtain⟨d,d1,d2,kn,ld,lt,lc,lm,L,f1,f2,f3,f4,f5,f6,f7,f8,f9,f10,f11,M⟩:=M
 exact⟨d,d1,d2,kn,ld,lt,lc,lm,L,f1,f2,f3,f4,f5,f6,f7,f8,f9,fun z y hz=>by obtain⟨k,hk,e⟩:=f10 z y hz; exact⟨k,s k hk,e⟩,f11,M⟩
end
attribute [go_sem] ty41 sz41 ag41 de41 ty43 sz43 ag43 fo43_0 fo43_1 fo43_2 fo43_3 fo43_4 fo43_5 bu43 ze43
noncomputable def q167 (p:Lq):Code:=piece p (J8 Tryz.f167)
theorem rs52:Tryz.f52.results.toList=[.tmp 2]:=rfl
theorem rs169:Tryz.f169.results.toList=[.tmp 2]:=rfl
theorem rs171:Tryz.f171.results.toList=[.tmp 2]:=rfl
theorem rs236:Tryz.f236.results.toList=[.tmp 4]:=rfl
theorem rs167:Tryz.f167.results.toList=[.tmp 6,.tmp 7]:=rfl
attribute [go_sem] rs52 rs169 rs171 rs236 rs167
def Zu0:Kn1:=fun args h=>match args with
 | [.c (.ptr s 0)]=>(G6 h s).bind fun S=>(Eu h S.gd).bind fun G=>some (.w (.c (.int .u8 G.md)),h)
 | _=>none
def Zum:Kn1:=fun args h=>match args with
 | [.c (.ptr s 0)]=>(G6 h s).bind fun S=>(Eu h S.gd).bind fun G=>some (.w (.c (.bool (G.md != 0))),h)
 | _=>none
def Zun:Kn1:=fun args h=>match args with
 | [.c (.ptr s 0)]=>(G6 h s).bind fun S=>(Eu h S.gd).bind fun _=>(Ov h S.tx).bind fun X=>Y5 X.op (some (.w (.c (.int .i64 0)),h))
 | _=>none
attribute [go_sem] Zu0 Zum Zun
def Z5x (V:Nat->Lq) (b w:Nat):Nat:=if b=0 then 0 else Yk (V b) (4 * w)
def Q5 (V:Nat->Lq) (b:Nat) (ws:Lq):Nat:=ws.foldl (Z5x V) b
theorem Zli (V:Nat->Lq):∀ ws,Q5 V 0 ws=0
 | []=>rfl
 | w :: ws=>by
  show Q5 V (Z5x V 0 w) ws=0
  rw[show Z5x V 0 w=0 from if_pos rfl]
  exact Zli V ws
theorem Zxv (V:Nat->Lq) (b:Nat) (ws:Lq) (w:Nat):Q5 V b (ws++[w])=Z5x V (Q5 V b ws) w:=by
 unfold Q5
 rw[List.foldl_append]
 rfl
def Z8a (a b c e:Nat) (V:Nat->Lq) (b0:Nat) (ws:Lq):Prop:=∀ j,j<ws.length->Q5 V b0 (ws.take j)≠0->Bp a b c e ((Q5 V b0 (ws.take j):Nat):Int)=true/\Q5 V b0 (ws.take j)<2+e+a * b
section
variable (Hh:Hearts K Tryz.prog)
include Hh
theorem Zfk {args:List W} {h h':Hq} {v:V} (e:Zu0 args h=some (v,h')):Zb 52 args h v h':=by
 unfold Zu0 at e
 split at e
 ·rename_i s
  obtain⟨S,hs,e⟩:=Zk e
  have hs:=Y6 hs
  obtain⟨G,hg,e⟩:=Zk e
  obtain⟨hg,fb⟩:=Jp hg
  cases e
  refine fnG Hh Tryz.f52 ?_
  repeat (first|apply Z6|apply Yx|apply Yc|((first|apply Goes.Zi|apply gO fits Hh (EY Za (Ga Hh))); · simp (maxSteps:=9^6) +decide (disch:=first|exact dZ|fail) only [go_sem,Zm,Zh,simprocAttr,hs,hg,gdL,read1]<;>rfl))
  exact Zd
 ·cases e
theorem Zmj {args:List W} {h h':Hq} {v:V} (e:Zum args h=some (v,h')):Zb 169 args h v h':=by
 unfold Zum at e
 split at e
 ·rename_i s
  obtain⟨S,hs,e⟩:=Zk e
  have hs:=Y6 hs
  obtain⟨G,hg,e⟩:=Zk e
  obtain⟨hg,fb⟩:=Jp hg
  cases e
  refine fnG Hh Tryz.f169 ?_
  repeat (first|apply Z6|apply Yc|((first|apply Goes.Zi|apply gO fits Hh (EY Za (Zfk Hh))); · simp (maxSteps:=9^6) +decide (disch:=first|exact dZ|fail) only [go_sem,Zm,Zh,simprocAttr,hs,hg,gdL,fb]<;>rfl))
  exact Zd
 ·cases e
theorem Zy8 {args:List W} {h h':Hq} {v:V} (e:Zun args h=some (v,h')):Zb 171 args h v h':=by
 unfold Zun at e
 split at e
 ·rename_i s
  obtain⟨S,hs,e⟩:=Zk e
  have hs:=Y6 hs
  obtain⟨G,hg,e⟩:=Zk e
  obtain⟨hg,fb⟩:=Jp hg
  obtain⟨X,ht,e⟩:=Zk e
  have ht:=Yw ht
  obtain⟨bo,e⟩:=Zu.1 e
  cases e
  refine fnG Hh Tryz.f171 ?_
  repeat (first|apply Z6|apply Yx|apply Yc|((first|apply Goes.Zi|apply gO fits Hh (EY (EY Za (Zbi Hh)) (Zd4 Hh))); · simp (maxSteps:=9^6) +decide (disch:=first|exact dZ|fail) only [go_sem,Zm,Zh,simprocAttr,hs,ht,hg,gdL,fb,bo]<;>rfl))
  exact Zd
 ·cases e
theorem Yd4 {h:Hq} {p w:Nat} {ns:Lq} (nl:ns.length=256) (hp:h.get p=some (.row 256 [pgL ns] false)) (hw:w<64):Zb 236 [.c (.ptr p 0),.c (.int .i64 (w:Int))] h (.w (.c (.int .i64 ((Yk ns (4 * w):Nat):Int)))) h:=by
 have e1:(4:Int) * (w:Int)=((4 * w:Nat):Int):=rfl
 have g4:=Znl ns (4 * w)
 have xl:(pgL ns).length=256:=by rw[J7,nl]
 have xb:=Zee ns
 have u4:Yk (unN (pgL ns)) (4 * w)=Yk ns (4 * w):=by rw[Gr,Vz]
 have r5:read1 256 [pgL ns] 255=some (.int .u8 ((atN ns 255:Nat):Int)):=Zra ⟨oM,oM⟩
 have rd:reaches 0 256 (some (.row 256 [pgL ns] false))=true:=by
  show (match read1 256 [pgL ns] 255 with|some _=>Nat.ble 1 256|none=>false)=true
  rw[r5]
  rfl
 obtain⟨Y,hY⟩:=xzE (pgL ns)
 obtain⟨z,hz⟩:=xzE (Yk ns (4 * w))
 obtain⟨u,hu⟩:=xzE (4 * w)
 have ul:u+4<=256:=oM
 rw[hY] at hp xl xb u4 rd
 rw[hz] at u4 g4 ⊢
 rw[hu] at u4 e1
 refine fnG Hh Tryz.f236 ?_
 have Jf:=Ng @e1 @hp @xl @xb @u4 @rd @Nat.zero_add
 repeat (first|apply Z6|apply Yc|refine Zn Hh (EY Za (Mq Hh)) Zat ?_)
 exact Zd
variable {n q a b c e:Nat} {cr:Cr} {md:Int} {S T:Lq} {V:Nat->Lq}
theorem Z04 (f:Yu a b c e=true) {b0:Nat} {ws:Lq} {s:C} (w0:Z8a a b c e V b0 ws) (w64:∀ w∈ws,w<64) (wl:ws.length<=8):∀ (k j:Nat) (ts:Zv) (h:Hq),j+k=ws.length->HE n q a b c e cr md S T V h->SlI h s ws->(∀ p o n z,s=.slice p o n z->q+9<=p/\p<h.next)->Zg ts 0=.w (.c (.ptr (n+13) 0))->Zg ts 33=.w (.c s)->Zg ts 34=.w (.c (.int .i64 (ws.length:Nat)))->Zg ts 35=.w (.c (.int .i64 (j:Nat)))->Zg ts 11=.w (.c (.int .i64 (Q5 V b0 (ws.take j):Nat))) ->
  Z9 54 none (q167 [1,1,1,1,1,0,1,2]) [] ts h fun x ds' ts' h'=>x=.exit 0/\ds'=[]/\HE n q a b c e cr md S T V h'/\Kr n q h h'/\Zg ts' 11=.w (.c (.int .i64 (Q5 V b0 ws:Nat))):=by
 obtain⟨g1,g2,g3,g4,g5,g6,g7,g8,g9,g10,g11⟩:=Z5 f
 intro k
 induction k with
 | zero =>
  intro j ts h hj M sl sb t0 t33 t34 t35 t11
  obtain rfl:j=ws.length:=oM
  rw[List.take_length] at t11
  have dl:decide ((ws.length:Int)<(ws.length:Int))=false:=decide_eq_false oM
  have Jf:=Jh @t34 @t35 @dl
  iterate 6 (first|refine Goes.Zi Zq ?_|refine Zn Hh Za Zq ?_|apply gS)
  refine⟨rfl,rfl,M,⟨Nat.le_refl _,fun _ _ _=>rfl⟩,?_⟩
  simp (maxSteps:=9^6) +decide (disch:=first|exact dZ|fail) only [go_sem,Zm,Zh,simprocAttr,t11]
 | succ k ih =>
  intro j ts h hj M sl sb t0 t33 t34 t35 t11
  have jl:j<ws.length:=oM
  obtain⟨w,hw⟩:∃ w,ws[j]? = some w:=⟨_,lG jl⟩
  have w6:=w64 w (lM hw)
  have tk:ws.take (j+1)=ws.take j++[w]:=by rw[List.take_add_one,hw]; rfl
  have sn:=Zxv V b0 (ws.take j) w
  rw[<-tk] at sn
  have rd:=rdI hw
  have dl:decide ((j:Int)<(ws.length:Int))=true:=decide_eq_true oM
  have wo:=w0 j jl
  have sl0:=sl
  obtain⟨e0,_⟩|⟨p,_,rfl,hp⟩:=sl
  ·rw[e0] at jl; simp at jl
  have pb:=sb _ _ _ _ rfl
  have lf:=Z1s
  have t33':=t33
  have t34':=t34
  obtain⟨nq,nx,n0⟩:=M.nx
  obtain⟨N,hN⟩:=xzE (ws.length)
  obtain⟨R,hR⟩:=xzE (rwI ws)
  rw[hN] at t33' t34' dl jl
  rw[hR] at hp rd
  by_cases b0':Q5 V b0 (ws.take j)=0
  ·rw[b0'] at t11
   have all0:Q5 V b0 ws=0:=by
    have:ws=ws.take j++ws.drop j:=(List.take_append_drop j ws).symm
    rw[this]
    unfold Q5 at b0' ⊢
    rw[List.foldl_append,b0']
    exact Zli V _
   have ez:(((0:Nat):Int) == 0)=true:=rfl
   rw[all0]
   have Jf:=Yp @t33' @t34' @t35 @t11 @dl @lf @hp @rd @ez
   iterate 15 (first|apply Z6|apply Yx|apply Qj|apply Ea|apply E9|refine Goes.Zi Zq ?_|refine Zn Hh Za Zq ?_)
   show _/\_/\_
   refine⟨rfl,rfl,M,⟨Nat.le_refl _,fun _ _ _=>rfl⟩,?_⟩
   exact Zq
  ·obtain⟨ob,bl⟩:=wo b0'
   have e1:Q5 V b0 (ws.take (j+1))=Yk (V (Q5 V b0 (ws.take j))) (4 * w):=by rw[sn]; exact if_neg b0'
   obtain⟨B,hB⟩:=xzE (Q5 V b0 (ws.take j))
   rw[hB] at t11 ob bl e1 b0'
   have ez:((B:Int) == 0)=false:=Db oM
   obtain⟨hG,eG,MG,nG,rG⟩:=M.get f ob bl
   have c11:=Eo Hh eG
   have vl:=M.len ob bl
   have Yl:(pgL (V B)).length=256:=by rw[J7,vl]
   have cP:=fun {h:Hq} {p:Nat} (hp:h.get p=some (.row 256 [pgL (V B)] false))=>Yd4 Hh vl hp w6
   obtain⟨z,hz⟩:=xzE (Yk (V B) (4 * w))
   obtain⟨Y,hY⟩:=xzE (pgL (V B))
   rw[hY] at c11 Yl
   simp only[hz,hY] at cP
   rw[hz] at e1
   have Jf:=Jh @t0 @t33' (Yp @t34' @t35 @t11 @dl @lf @hp @rd @ez @Yl)
   iterate 16 (first|refine Goes.Zi Zt ?_|refine Zn Hh Za Zt ?_|apply gS)
   iterate 6 (first|refine Goes.Zi Zt ?_|refine Zn Hh (Zj Za c11) Zt ?_|apply gS)
   refine Jq fun hA eA=>?_
   have nA:hA.next=h.next+1:=by rw[eA]; simp only[H.Zf,H.Ze,nG]
   have kA:∀ m,m<h.next->m≠n+6->hA.get m=h.get m:=fun m hm hne=>by rw[eA]; refine Eq.trans ?_ (rG m hm hne); exact Yn
   have bA:hA.get h.next=some (.row 256 [Y] false):=by rw[eA,<-nG]; exact Zt
   have MA:=MG.keep (h2:=hA) oM (fun m hm=>by rw[eA]; exact Yn)
   clear eA
   have c14:=cP bA
   rw[<-nG] at c14
   iterate 2 (refine Zn Hh (Zj Za c14) Zt ?_)
   show Z9 54 none (q167 [1,1,1,1,1,0,1,2]) _ _ _ _
   refine (ih (j+1) _ hA oM MA (sl0.keep fun p' o n' z e=>by cases e; exact kA p oM oM) (fun p' o n' z e=>by cases e; exact⟨pb.1,oM⟩) ?_ ?_ ?_ ?_ ?_).mono ?_
   ·have Jf:=@t0; exact Zq
   ·have Jf:=@t33; exact Zq
   ·have Jf:=@t34; exact Zq
   ·exact Zd
   ·rw[e1]; exact Zd
   rintro x' ds' ts' h' ⟨w1,w2,w3,w4,w5⟩
   exact⟨w1,w2,w3,⟨by have:=w4.1; omega,fun m hm hne=>(w4.2 m oM hne).trans (kA m hm hne)⟩,w5⟩
end
structure InoP (x:List C) (P:Nat->Nat):Prop where
 xl:x.length=16
 pt:∀ i,i<11->x[4+i]? = some (.int .u32 (P i:Nat))
 pb:∀ i,i<11->P i<4294967296
theorem InoP.rd {x:List C} {P:Nat->Nat} (X:InoP x P) {i:Nat} (hi:i<11):read1 16 [x] (4+i)=some (.int .u32 (P i:Nat)):=by
 have:=Fa (L:=[x]) (sz:=16) (i:=0) (j:=4+i) oM rfl
 rw[Nat.zero_mul,Nat.zero_add] at this
 rw[this]
 exact X.pt i hi
def Zbl (V:Nat->Lq) (P:Nat->Nat) (i:Nat):Nat:=Q5 V (P (Lb i).1) (Lb i).2
theorem Zws (i:Nat):(Lb i).2.length<=8:=by
 unfold Lb
 split
 ·exact (by omega:0<=8)
 ·split
  ·exact (by omega:1<=8)
  ·exact (by omega:2<=8)
section
variable (Hh:Hearts K Tryz.prog)
include Hh
variable {n q a b c e:Nat} {cr:Cr} {md:Int} {S T:Lq} {V:Nat->Lq} {h:Hq}
theorem Z6k (f:Yu a b c e=true) (m0:md≠0) (M:HE n q a b c e cr md S T V h) {x:List C} {P:Nat->Nat} (X:InoP x P) {i:Nat} (hi:i<110) (w0:Z8a a b c e V (P (Lb i).1) (Lb i).2) :
  ∃ h',Zb 167 [.c (.ptr (n+13) 0),.g x,.c (.int .i64 (i:Int))] h (.tup [.c (.int .i64 (Zbl V P i:Nat)),.c (.int .i64 0)]) h'/\HE n q a b c e cr md S T V h'/\Kr n q h h':=by
 obtain⟨nq,nx,n0⟩:=M.nx
 obtain⟨st,⟨kn,hs⟩,⟨dk,gl⟩,ht⟩:=M.cells
 unfold gdL gdD at gl
 have dm:(md != 0)=true:=Nn m0
 obtain⟨p11,w6⟩:=Z3d hi
 have xl:=X.xl
 have rx:=X.rd p11
 have pb:=X.pb _ p11
 have wl:=Zws i
 unfold Zbl
 obtain⟨ws,hws⟩:=xzE ((Lb i).2)
 have hO:=fun {h:Hq} (h0:0<h.next)=>Yc4 Hh hi (h:=h) h0
 obtain⟨pk,hpk⟩:=xzE ((Lb i).1)
 simp only[hws,hpk] at hO w0 w6 p11 rx pb wl ⊢
 obtain⟨b0,hb0⟩:=xzE (P pk)
 rw[hb0] at rx pb w0 ⊢
 have lp:=fun s=>Z04 Hh (n:=n) (q:=q) (cr:=cr) (md:=md) (S:=S) (T:=T) (s:=s) f w0 w6 wl ws.length 0
 refine Ow ?_
 refine Ym Hh Tryz.f167 ?_
 have Jf:=Gq @f @hs @gl @dm @xl
 iterate 8 (first|refine Goes.Zi Yd ?_|refine Zn Hh (EY Za (Zmj Hh)) Yd ?_|apply gS)
 refine Jq fun hA eA=>?_
 have nA:hA.next=h.next+1:=nxQ eA
 have kA:∀ m,m<h.next->hA.get m=h.get m:=kQ eA
 have bA:hA.get h.next=some (.row 16 [x] false):=by rw[eA]; exact Zt
 clear eA
 obtain⟨hB,s,c3,nB,kB,sB,lB⟩:=hO (h:=hA) oM
 have bB:=(kB h.next oM).trans bA
 have MB:=M.keep (h2:=hB) oM (fun m hm=>(kB m oM).trans (kA m oM))
 obtain⟨lf,ln⟩:=Ycv sB
 have Jf:=Ng Jf @bB @rx @pb @p11 @lf @ln
 iterate 12 (first|refine Goes.Zi Yd ?_|refine Zn Hh (Zj Za c3) Yd ?_|apply gS)
 refine (lp s _ hB oM MB sB (fun p o n z e=>⟨by have:=(lB p o n z e).1; omega,(lB p o n z e).2⟩) ?_ ?_ ?_ ?_ ?_).mono ?_
 ·exact Zd
 ·exact Zd
 ·exact Zd
 ·exact Zd
 ·exact Zd
 rintro x1 ds1 ts1 h1 ⟨rfl,rfl,M1,k1,t11⟩
 have Jf:=@t11
 iterate 3 (first|refine Zn Hh Za Zq ?_|apply gS)
 exact⟨_,_,Zq,rfl,M1,⟨by have:=k1.1; omega,fun m hm hne=>(k1.2 m oM hne).trans ((kB m oM).trans (kA m hm))⟩⟩
end
theorem ty384:K.types.get 384=some ti384:=kR
theorem sz384:ti384.size=1:=by rfl
theorem ag384:ti384.agg=false:=by rfl
attribute [go_sem] ty384 sz384 ag384
theorem rs219:Tryz.f219.results.toList=[.tmp 6,.tmp 7]:=rfl
theorem rs271:Tryz.f271.results.toList=[.tmp 8,.tmp 9,.tmp 10]:=rfl
attribute [go_sem] rs219 rs271
theorem Z2a {ts:Zv} {h:Hq} (t:Go.TypeId) (x:Go.Operand) (lo hi:Option Go.Operand):Oa K ts h (.slice t x lo hi none)=Gt h (Uj K h (K.types.get t) (Z4 K ts x) (Bf K ts lo) (Bf K ts hi)):=rfl
attribute [go_sem] Z2a
theorem Yek (c:C):read1 1 [[c]] 0=some c:=rfl
def zer0:Lq:=List.replicate 256 0
theorem Z4n:zer0.length=256:=rfl
theorem Zwx:pgL zer0=List.replicate 256 (.int .u8 0):=kR
structure AlcV (n q a b c e:Nat) (cr:Cr) (md:Int) (S:Lq) (Al:(Nat->Lq)->Nat->Prop) (blk:Nat->Nat) (cap:Nat) (mt nk:Nat->Prop):Prop where
 take:∀ {V:Nat->Lq} {h:Hq} {T:Lq} {m near:Nat},HE n q a b c e cr md S T V h->Al V m->m<cap->nk near->(∀ z,mt z->z ∉ T)->∃ h' V',Zb 270 [.c (.ptr (n+13) 0),.c (.int .i64 (near:Int))] h (.tup [.c (.int .i64 (blk m:Nat)),.c (.int .i64 0)]) h'/\HE n q a b c e cr md S T V' h'/\Kp n q h h'/\Al V' (m+1)/\∀ z,¬ mt z->V' z=V z
 upd:∀ {V:Nat->Lq} {m z:Nat} {x:Lq},Al V m->¬ mt z->Al (Gp V z x) m
 our4:∀ m,m<cap->Bp a b c e (blk m:Nat)=true/\blk m<2+e+a * b/\0<blk m/\¬ mt (blk m)
 inj:∀ m m',m<cap->m'<cap->blk m=blk m'->m=m'
structure AlcW (n q a b c e:Nat) (cr:Cr) (md:Int) (S:Lq) (Al:(Nat->Lq)->Nat->Prop) (blk:Nat->Nat) (cap:Nat) (mt nk:Nat->Prop):Prop extends AlcV n q a b c e cr md S Al blk cap mt nk where
 sS:∀ m,m<cap->blk m∈S
theorem AlcW.ours {n q a b c e:Nat} {cr:Cr} {md:Int} {S:Lq} {Al:(Nat->Lq)->Nat->Prop} {blk:Nat->Nat} {cap:Nat} {mt nk:Nat->Prop} (A:AlcW n q a b c e cr md S Al blk cap mt nk) (m:Nat) (h:m<cap):Bp a b c e (blk m:Nat)=true/\blk m<2+e+a * b/\0<blk m/\¬ mt (blk m)/\blk m∈S:=by
 obtain⟨o1,o2,o3,o4⟩:=A.our4 m h
 exact⟨o1,o2,o3,o4,A.sS m h⟩
structure Alc (n q a b c e:Nat) (cr:Cr) (md:Int) (S:Lq) (Al:(Nat->Lq)->Nat->Prop) (blk:Nat->Nat) (cap:Nat) (mt nk:Nat->Prop):Prop extends AlcW n q a b c e cr md S Al blk cap mt nk where
 near:nk 0/\∀ m,m<cap->nk (blk m)
section
variable (Hh:Hearts K Tryz.prog)
include Hh
variable {n q a b c e:Nat} {cr:Cr} [Opn cr] {md:Int} {S T:Lq} {V:Nat->Lq} {h:Hq} {Al:(Nat->Lq)->Nat->Prop} {blk:Nat->Nat} {cap:Nat} {mt nk:Nat->Prop} {m:Nat}
theorem Z95 (f:Yu a b c e=true) (A:AlcV n q a b c e cr md S Al blk cap mt nk) {lv:Nat} (lS:0<lv->blk m∈S) (M:HE n q a b c e cr md S T V h) (al:Al V m) (mc:m<cap) {near:Nat} (nr:nk near) (hT:∀ z,mt z->z ∉ T) (bT:blk m ∉ T) (lv8:lv<=8) :
  ∃ h' V',Zb 219 [.c (.ptr (n+13) 0),.c (.int .i64 (lv:Int)),.c (.int .i64 (near:Int))] h (.tup [.c (.int .i64 (blk m:Nat)),.c (.int .i64 0)]) h'/\HE n q a b c e cr md S T V' h'/\Kp n q h h'/\Al V' (m+1)/\(∀ z,¬ mt z->z≠blk m->V' z=V z)/\(0<lv->V' (blk m)=zer0):=by
 obtain⟨o1,o2,o3,o4⟩:=A.our4 m mc
 obtain⟨hA,V1,c1,MA,kA,alA,vA⟩:=A.take M al mc nr hT
 by_cases l0:lv=0
 ·subst l0
  have d0:decide ((((0:Nat):Int)) > 0)=false:=rfl
  obtain⟨v,h',cc,rfl,rfl⟩:∃ v h',Zb 219 [.c (.ptr (n+13) 0),.c (.int .i64 ((0:Nat):Int)),.c (.int .i64 (near:Int))] h v h'/\v=.tup [.c (.int .i64 (blk m:Nat)),.c (.int .i64 0)]/\h'=hA:=by
   refine Ym Hh Tryz.f219 ?_
   have Jf:=@d0
   iterate 3 (first|refine Zn Hh Za Zq ?_|apply gS)
   iterate 14 (first|refine Goes.Zi Zq ?_|refine Zn Hh (Zj Za c1) Zq ?_|apply gS)
   exact⟨_,_,Zd,rfl,rfl⟩
  exact⟨_,V1,cc,MA,kA,alA,fun z hz _=>vA z hz,fun w=>absurd w oM⟩
 ·have d0:decide ((lv:Int) > 0)=true:=decide_eq_true oM
  obtain⟨hB,e5,MB,nB,kB⟩:=MA.put f o1 o2 Z4n (lS oM) bT
  have c5:=N7 Hh e5
  rw[Zwx] at c5
  obtain⟨v,h',cc,rfl,rfl⟩:∃ v h',Zb 219 [.c (.ptr (n+13) 0),.c (.int .i64 (lv:Int)),.c (.int .i64 (near:Int))] h v h'/\v=.tup [.c (.int .i64 (blk m:Nat)),.c (.int .i64 0)]/\h'=hB:=by
   refine Ym Hh Tryz.f219 ?_
   have Jf:=@d0
   iterate 3 (first|refine Zn Hh Za Zq ?_|apply gS)
   iterate 11 (first|refine Goes.Zi Zq ?_|refine Zn Hh (Zj Za c1) Zq ?_|apply gS)
   iterate 8 (first|refine Goes.Zi Zq ?_|refine Zn Hh (Zj Za c5) Zq ?_|apply gS)
   exact⟨_,_,Zd,rfl,rfl⟩
  refine⟨_,Gp V1 (blk m) zer0,cc,MB,⟨by have:=kA.1; omega,fun p hp ho=>(kB p ho.1).trans (kA.2 p hp ho)⟩,A.upd alA o4,fun z hz hne=>by rw[Jo hne]; exact vA z hz,fun _=>Bg ..⟩
variable {p4 p11 p o k:Nat} {L:Lq}
theorem Z22 (b0:Nat) (fr:Bool):Zb 271 [.c (.int .i64 (b0:Int)),.c .snil,.c (.bool fr),.c (.ptr p4 0),.c (.ptr p11 0)] h (.tup [.c (.int .i64 (b0:Int)),.c (.bool fr),.c (.int .i64 0)]) h:=by
 have lf:=Zwa
 refine fnG Hh Tryz.f271 ?_
 have Jf:=@lf
 iterate 9 (first|refine Goes.Zi Ui ?_|refine Zn Hh Za Ui ?_|apply gS)
 exact Zd
end
theorem rs220:Tryz.f220.results.toList=[.tmp 8,.tmp 9,.tmp 10]:=rfl
theorem rs146:Tryz.f146.results.toList=[.cell 8 43,.tmp 9,.tmp 10,.tmp 11]:=rfl
attribute [go_sem] rs220 rs146
section
variable (Hh:Hearts K Tryz.prog)
include Hh
variable {n q a b c e:Nat} {cr:Cr} [Opn cr] {md:Int} {S T:Lq} {V:Nat->Lq} {h:Hq} {Al:(Nat->Lq)->Nat->Prop} {blk:Nat->Nat} {cap:Nat} {mt nk:Nat->Prop} {m:Nat}
theorem Z6j (M:HE n q a b c e cr md S T V h) {b0:Nat} {s:C} {fr:Bool} {r1:Nat} {r2:Bool} {R:(Nat->Lq)->Prop}
  (rec:∀ h1 p4 p11,HE n q a b c e cr md S T V h1->h.next<=h1.next->(∀ m,m<h.next->h1.get m=h.get m)->h1.get p4=some (.row 1 [[.ptr (n+13) 0]] false)->h1.get p11=some (.row 1 [[.fn 271 [] [some (p4,0),some (p11,0)]]] false)->q+9<=p4/\p4<h1.next->q+9<=p11/\p11<h1.next->∃ h2,Zb 271 [.c (.int .i64 (b0:Int)),.c s,.c (.bool fr),.c (.ptr p4 0),.c (.ptr p11 0)] h1 (.tup [.c (.int .i64 (r1:Int)),.c (.bool r2),.c (.int .i64 0)]) h2/\Kp n q h1 h2/\∃ V',HE n q a b c e cr md S T V' h2/\R V') :
  ∃ h',Zb 220 [.c (.ptr (n+13) 0),.c (.int .i64 (b0:Int)),.c s,.c (.bool fr)] h (.tup [.c (.int .i64 (r1:Int)),.c (.bool r2),.c (.int .i64 0)]) h'/\Kp n q h h'/\∃ V',HE n q a b c e cr md S T V' h'/\R V':=by
 obtain⟨nq,nx,n0⟩:=M.nx
 refine Ow ?_
 refine Ym Hh Tryz.f220 ?_
 have Jf:=@Yek
 iterate 7 (first|refine Zn Hh Za Zgj ?_|apply gS)
 refine Jq fun hA eA=>?_
 have nA:hA.next=h.next+1+1:=nxQ eA
 have kA:∀ m,m<h.next->hA.get m=h.get m:=kQ eA
 have a4:hA.get h.next=some (.row 1 [[.ptr (n+13) 0]] false):=by rw[eA]; exact Zd
 have a11:hA.get (h.next+1)=some (.row 1 [[.fn 271 [] [some (h.next,0),some (h.next+1,0)]]] false):=by rw[eA]; exact Zd
 clear eA
 have MA:=M.keep (h2:=hA) oM (fun m hm=>kA m oM)
 obtain⟨hB,c3,kB,hR⟩:=rec hA h.next (h.next+1) MA oM kA a4 a11 ⟨oM,oM⟩ ⟨oM,oM⟩
 have Jf:=Y2 Jf @a11
 iterate 2 (first|refine Zn Hh (Zj Za c3) Zgj ?_|apply gS)
 exact⟨_,_,Zd,rfl,⟨by have:=kB.1; omega,fun m hm ho=>(kB.2 m oM ho).trans (kA m hm)⟩,hR⟩
theorem Ycz (f:Yu a b c e=true) (m0:md≠0) (A:AlcV n q a b c e cr md S Al blk cap mt nk) {i:Nat} (wS:0<(Lb i).2.length->blk m∈S) (M:HE n q a b c e cr md S T V h) (al:Al V m) (mc:m<cap) (hT:∀ z,mt z->z ∉ T) (bT:blk m ∉ T) (b32:blk m<4096) {x:List C} {P:Nat->Nat} (X:InoP x P) (hi:i<110) {near:Nat} (nr:nk near) (nz:P (Lb i).1=0) {r1:Nat} {r2:Bool} {R:(Nat->Lq)->Prop}
  (dn:∀ h1 s V1,HE n q a b c e cr md S T V1 h1->Al V1 (m+1)->(∀ z,¬ mt z->z≠blk m->V1 z=V z)->(0<(Lb i).2.length->V1 (blk m)=zer0)->SlI h1 s (Lb i).2->(∀ p o n z,s=.slice p o n z->q+9<=p/\p<h1.next)->∃ h2,Zb 220 [.c (.ptr (n+13) 0),.c (.int .i64 (blk m:Nat)),.c s,.c (.bool true)] h1 (.tup [.c (.int .i64 (r1:Int)),.c (.bool r2),.c (.int .i64 0)]) h2/\Kp n q h1 h2/\∃ V',HE n q a b c e cr md S T V' h2/\R V') :
  ∃ h',Zb 146 [.c (.ptr (n+13) 0),.g x,.c (.int .i64 (i:Int)),.c (.int .i64 (near:Int))] h (.tup [.g (x.set (4+(Lb i).1) (.int .u32 (blk m:Nat))),.c (.int .i64 (r1:Int)),.c (.bool r2),.c (.int .i64 0)]) h'/\Kp n q h h'/\∃ V',HE n q a b c e cr md S T V' h'/\R V':=by
 obtain⟨nq,nx,n0⟩:=M.nx
 obtain⟨st,⟨kn,hs⟩,⟨dk,gl⟩,ht⟩:=M.cells
 unfold gdL gdD at gl
 have dm:(md != 0)=true:=Nn m0
 obtain⟨p11,w6⟩:=Z3d hi
 have xl:=X.xl
 have rx:=X.rd p11
 have wl:=Zws i
 have hO:=fun {h:Hq} (h0:0<h.next)=>Yc4 Hh hi (h:=h) h0
 obtain⟨ws,hws⟩:=xzE ((Lb i).2)
 obtain⟨pk,hpk⟩:=xzE ((Lb i).1)
 simp only[hws,hpk] at hO dn p11 rx nz wl wS ⊢
 rw[nz] at rx
 have hTk:=fun {h:Hq} (M:HE n q a b c e cr md S T V h)=>Z95 Hh f A wS M al mc nr hT bT wl
 obtain⟨G,hG'⟩:=xzE (blk m)
 simp only[hG'] at dn hTk ⊢
 rw[hG'] at b32
 have w8:Z0 16 [x] (4+pk) [.int .u32 (G:Int)]=some [x.set (4+pk) (.int .u32 (G:Int))]:=by
  have h1:(4+pk) / 16=0:=oM
  have h2:(4+pk) % 16=4+pk:=oM
  simp only[Z0,h1,h2,List.getElem?_cons_zero]
  rw[Zbr oM,cond_true]
  rfl
 have wU:Jm .u32 (G:Int)=.int .u32 (G:Int):=Zap oM
 have x1l:(x.set (4+pk) (.int .u32 (G:Int))).length=16:=by rw[List.length_set]; exact xl
 obtain⟨x1,hx1⟩:=xzE (x.set (4+pk) (.int .u32 (G:Int)))
 rw[hx1] at w8 x1l ⊢
 have ez:(((0:Nat):Int) == 0)=true:=rfl
 refine Ow ?_
 refine Ym Hh Tryz.f146 ?_
 have Jf:=Yp @f @hs @gl @ht @dm @xl @rx @p11 @ez
 iterate 8 (first|refine Goes.Zi Yd ?_|refine Zn Hh (EY Za (Zmj Hh)) Yd ?_|apply gS)
 refine Jq fun hA eA=>?_
 have nA:hA.next=h.next+2:=nxQ eA
 have kA:∀ m,m<h.next->hA.get m=h.get m:=kQ eA
 have b5:hA.get h.next=some (.row 16 [x] false):=by rw[eA]; exact Zt
 obtain⟨y,yl,b8⟩:∃ y:List C,y.length=16/\hA.get (h.next+1)=some (.row 16 [y] false):=⟨_,rfl,by rw[eA]; exact Yi⟩
 clear eA
 obtain⟨hB,s,c3,nB,kB,sB,lB⟩:=hO (h:=hA) oM
 have B5:=(kB h.next oM).trans b5
 have B8:=(kB (h.next+1) oM).trans b8
 have MB:=M.keep (h2:=hB) oM (fun m hm=>(kB m oM).trans (kA m oM))
 obtain⟨_,⟨knB,hsB⟩,⟨dkB,glB⟩,htB⟩:=MB.cells
 unfold gdL gdD at glB
 obtain⟨lf,ln⟩:=Ycv sB
 have Jf:=Yp Jf @B5 @B8 @yl @hsB @glB @htB @lf @ln
 iterate 8 (first|refine Goes.Zi Yd ?_|refine Zn Hh (Zj Za c3) Yd ?_|apply gS)
 iterate 15 (first|refine Goes.Zi Yd ?_|refine Zn Hh (EY Za (Zy8 Hh)) Yd ?_|apply gS)
 refine Jq fun hC eC=>?_
 have nC:hC.next=hB.next:=by rw[eC]; simp only[H.Zf]
 have kC:∀ m,m<hB.next->m≠h.next+1->hC.get m=hB.get m:=fun m hm hne=>by rw[eC]; exact Yn
 have C8:hC.get (h.next+1)=some (.row 16 [x] false):=by rw[eC]; exact Zt
 clear eC
 have MC:=MB.keep (h2:=hC) oM (fun m hm=>kC m oM oM)
 obtain⟨hE,V1,c12,ME,kE,alE,vE,zE⟩:=hTk MC
 have nE:=kE.1
 have E8:=(kE.2 (h.next+1) oM ⟨⟨oM,oM,oM,oM,oM⟩,oM⟩).trans C8
 have Jf:=J4 Jf @E8 @w8 @wU
 iterate 10 (first|refine Goes.Zi Yd ?_|refine Zn Hh (Zj Za c12) Yd ?_|apply gS)
 refine Jq fun hF eF=>?_
 have nF:hF.next=hE.next:=by rw[eF]; simp only[H.Zf]
 have kF:∀ m,m≠h.next+1->hF.get m=hE.get m:=fun m hne=>by rw[eF,Zc hne]
 have F8:hF.get (h.next+1)=some (.row 16 [x1] false):=by rw[eF,Zz]
 clear eF
 have MF:=ME.keep (h2:=hF) oM (fun m hm=>kF m oM)
 obtain⟨hD,c17,kD,V',MD,rv⟩:=dn hF s V1 MF alE vE zE (sB.keep fun p o n' z e=>by
  have l1:=lB p o n' z e
  refine (kF p oM).trans ((kE.2 p oM ⟨⟨oM,oM,oM,oM,oM⟩,oM⟩).trans (kC p l1.2 oM))) (fun p o n z e=>⟨by have:=(lB p o n z e).1; omega,by have:=(lB p o n z e).2; omega⟩)
 have nD:=kD.1
 have D8:=(kD.2 (h.next+1) oM ⟨⟨oM,oM,oM,oM,oM⟩,oM⟩).trans F8
 have Jf:=Y2 Jf @D8
 iterate 8 (first|refine Goes.Zi Yd ?_|refine Zn Hh (Zj Za c17) Yd ?_|apply gS)
 refine⟨_,_,(by have Jf:=Y2 @D8 @x1l; exact Zt),rfl,⟨?_,fun m hm ho=>?_⟩,V',MD.keep ?_ (fun m hm=>?_),rv⟩
 ·first|omega|(simp only[H.Zf,H.Ze]<;>omega)
 ·refine Eq.trans ?_ ((kD.2 m oM ho).trans ((kF m oM).trans ((kE.2 m oM ho).trans ((kC m oM oM).trans ((kB m oM).trans (kA m hm)))))); exact Yn
 ·first|omega|(simp only[H.Zf,H.Ze]<;>omega)
 ·exact Yn
theorem Ycx (f:Yu a b c e=true) (m0:md≠0) (A:AlcW n q a b c e cr md S Al blk cap mt nk) (M:HE n q a b c e cr md S T V h) (al:Al V m) (mc:m<cap) (hT:∀ z,mt z->z ∉ T) (bT:blk m ∉ T) (b32:blk m<4096) {x:List C} {P:Nat->Nat} (X:InoP x P) {i:Nat} (hi:i<110) {near:Nat} (nr:nk near) (nz:P (Lb i).1=0) {r1:Nat} {r2:Bool} {R:(Nat->Lq)->Prop}
  (dn:∀ h1 s V1,HE n q a b c e cr md S T V1 h1->Al V1 (m+1)->(∀ z,¬ mt z->z≠blk m->V1 z=V z)->(0<(Lb i).2.length->V1 (blk m)=zer0)->SlI h1 s (Lb i).2->(∀ p o n z,s=.slice p o n z->q+9<=p/\p<h1.next)->∃ h2,Zb 220 [.c (.ptr (n+13) 0),.c (.int .i64 (blk m:Nat)),.c s,.c (.bool true)] h1 (.tup [.c (.int .i64 (r1:Int)),.c (.bool r2),.c (.int .i64 0)]) h2/\Kp n q h1 h2/\∃ V',HE n q a b c e cr md S T V' h2/\R V') :
  ∃ h',Zb 146 [.c (.ptr (n+13) 0),.g x,.c (.int .i64 (i:Int)),.c (.int .i64 (near:Int))] h (.tup [.g (x.set (4+(Lb i).1) (.int .u32 (blk m:Nat))),.c (.int .i64 (r1:Int)),.c (.bool r2),.c (.int .i64 0)]) h'/\Kp n q h h'/\∃ V',HE n q a b c e cr md S T V' h'/\R V':=Ycz Hh f m0 A.toAlcV (fun _=>A.sS m mc) M al mc hT bT b32 X hi nr nz dn
end
theorem ty326:K.types.get 326=some ti326:=kR
theorem sz326:ti326.size=256:=by rfl
theorem fo326_0:Zw K 326 0=some (0,ti87):=kR
theorem bu326 (ps:List (Nat × W)):Yr K 326 (some ps)=gW (Yh K 326 ps ti326.zero.cells):=kR
theorem ze326:ti326.zero=(.g ((List.replicate 256 (.int .u8 0)))):=by rfl
theorem el454:J9 K 454=some ti73:=kR
attribute [go_sem] ty326 sz326 fo326_0 bu326 ze326 el454
theorem rs215:Tryz.f215.results.toList=[]:=rfl
theorem rs212:Tryz.f212.results.toList=[.tmp 4]:=rfl
theorem rs268:Tryz.f268.results.toList=[]:=rfl
theorem rs265:Tryz.f265.results.toList=[.tmp 4]:=rfl
theorem rs266:Tryz.f266.results.toList=[.tmp 2]:=rfl
theorem rs216:Tryz.f216.results.toList=[]:=rfl
theorem rs209:Tryz.f209.results.toList=[.tmp 2]:=rfl
attribute [go_sem] rs215 rs212 rs268 rs265 rs266 rs216 rs209
def Z3w:Kn1:=fun args h=>match args with
 | [.c (.ptr p 0),.c (.int .i64 a),.c (.int .i64 v)]=>(Ob a).bind fun a=>(Ob v).bind fun v=>(Li h p).bind fun x=>Y5 (decide (a+2<=256)&&decide (v<65536)) (some (.tup [],h.put p (.row 256 [pgL (G8 (unN x) a v)] false)))
 | _=>none
def Zur:Kn1:=fun args h=>match args with
 | [.c (.ptr p 0),.c (.int .i64 a),.c (.int .u32 v)]=>(Ob a).bind fun a=>(Ob v).bind fun v=>(Li h p).bind fun x=>Y5 (decide (a+4<=256)&&decide (v<4294967296)) (some (.tup [],h.put p (.row 256 [pgL (Jz (unN x) a v)] false)))
 | _=>none
def Z3u:Kn1:=fun args h=>match args with
 | [.c (.ptr p 0),.c (.int .i64 a)]=>(Ob a).bind fun a=>(Li h p).bind fun x=>Y5 (decide (a+2<=256)) (some (.w (.c (.int .i64 ((Ou (unN x) a:Nat):Int))),h))
 | _=>none
def Zuq:Kn1:=fun args h=>match args with
 | [.c (.ptr p 0),.c (.int .i64 a)]=>(Ob a).bind fun a=>(Li h p).bind fun x=>Y5 (decide (a+4<=256)) (some (.w (.c (.int .u32 ((Yk (unN x) a:Nat):Int))),h))
 | _=>none
def Zou:Kn1:=fun args h=>match args with
 | [.c (.ptr p 0)]=>(Li h p).bind fun x=>Y5 (M4 (h.get 0)) (some (.w (.c (.int .u32 ((Qx (unN x):Nat):Int))),h))
 | _=>none
def Zus:Kn1:=fun args h=>match args with
 | [.c (.ptr p 0)]=>(Li h p).bind fun x=>Y5 (M4 (h.get 0)) (some (.tup [],h.put p (.row 256 [pgL (Jz (unN x) 252 (Qx (unN x)))] false)))
 | _=>none
def Zj0:Kn1:=fun args h=>match args with
 | [.c (.ptr p 0)]=>(Li h p).bind fun x=>Y5 (M4 (h.get 0)) (some (.w (.c (.bool (((Yk (unN x) 252:Nat):Int) == ((Qx (unN x):Nat):Int)))),h))
 | _=>none
def Zfg:Kn1:=fun args h=>match args with
 | [.c (.ptr p 0),.c (.int .i64 a),.c (.int .i64 b)]=>(Ob a).bind fun a=>(Ob b).bind fun b=>(Li h p).bind fun x=>Y5 (decide (a<=b)&&decide (b<=256)) (some (.w (.c (.bool (Bv (unN x) a (b - a)))),h))
 | _=>none
attribute [go_sem] Z3w Zur Z3u Zuq Zou Zus Zj0 Zfg
theorem Ydb {ns:Lq} {ro:Bool} (h:256<=ns.length/\ns.length<=256):reaches 0 256 (some (.row 256 [pgL ns] ro))=true:=by
 unfold reaches
 show (match read1 256 [pgL ns] 255 with
  | some _=>Nat.ble 1 256
  | none=>false)=true
 rw[Zra oM]
 rfl
attribute [go_sem] Ydb
section
variable (Hh:Hearts K Tryz.prog)
include Hh
theorem Z3x {args:List W} {h h':Hq} {v:V} (e:Z3w args h=some (v,h')):Zb 215 args h v h':=by
 unfold Z3w at e
 split at e
 ·obtain⟨a,ha,e⟩:=Zk e
  obtain⟨v,hv,e⟩:=Zk e
  obtain⟨x,hx,e⟩:=Zk e
  obtain⟨ns,rfl,hl,hp⟩:=J6 hx
  obtain⟨b,e⟩:=Zu.1 e
  simp only[aQ,decide_eq_true_eq] at b
  obtain⟨b1,b2⟩:=b
  cases e
  rw[Yb ha,Yb hv,Gr,Zi2]
  refine fnG Hh Tryz.f215 ?_
  have Jf:=Jh @hp @hl @Nat.add_zero
  repeat (first|refine Zn Hh (EY Za (Zmk Hh)) Zat ?_)
  exact Zd
 ·cases e
theorem Zzb {args:List W} {h h':Hq} {v:V} (e:Zur args h=some (v,h')):Zb 268 args h v h':=by
 unfold Zur at e
 split at e
 ·obtain⟨a,ha,e⟩:=Zk e
  obtain⟨v,hv,e⟩:=Zk e
  obtain⟨x,hx,e⟩:=Zk e
  obtain⟨ns,rfl,hl,hp⟩:=J6 hx
  obtain⟨b,e⟩:=Zu.1 e
  simp only[aQ,decide_eq_true_eq] at b
  obtain⟨b1,b2⟩:=b
  cases e
  rw[Yb ha,Yb hv,Gr,Xh]
  refine fnG Hh Tryz.f268 ?_
  have Jf:=Jh @hp @hl @Nat.add_zero
  repeat (first|refine Zn Hh (EY Za (Zfh Hh)) Zat ?_)
  exact Zd
 ·cases e
theorem Z3v {args:List W} {h h':Hq} {v:V} (e:Z3u args h=some (v,h')):Zb 212 args h v h':=by
 unfold Z3u at e
 split at e
 ·obtain⟨a,ha,e⟩:=Zk e
  obtain⟨x,hx,e⟩:=Zk e
  obtain⟨ns,rfl,hl,hp⟩:=J6 hx
  obtain⟨b,e⟩:=Zu.1 e
  simp only[decide_eq_true_eq] at b
  cases e
  have g2:=Znk ns a
  have g3:Ou ns (0+a)=Ou ns a:=by rw[Nat.zero_add]
  rw[Yb ha,Gr,Q6]
  obtain⟨g,hg⟩:=xzE (Ou ns a)
  rw[hg] at g2 ⊢
  refine fnG Hh Tryz.f212 ?_
  have Jf:=Gq @hp @hl @hg @Nat.add_zero @Nat.zero_add
  repeat (first|apply Z6|apply Yc|refine Zn Hh (EY Za (Zme Hh)) Zat ?_)
  exact Zd
 ·cases e
theorem Zza {args:List W} {h h':Hq} {v:V} (e:Zuq args h=some (v,h')):Zb 265 args h v h':=by
 unfold Zuq at e
 split at e
 ·obtain⟨a,ha,e⟩:=Zk e
  obtain⟨x,hx,e⟩:=Zk e
  obtain⟨ns,rfl,hl,hp⟩:=J6 hx
  obtain⟨b,e⟩:=Zu.1 e
  simp only[decide_eq_true_eq] at b
  cases e
  rw[Yb ha,Gr,Vz]
  refine fnG Hh Tryz.f265 ?_
  have Jf:=J4 @hp @hl @Nat.add_zero @Nat.zero_add
  repeat (first|apply Z6|apply Yc|refine Zn Hh (EY Za (Mq Hh)) Zat ?_)
  exact Zd
 ·cases e
theorem Zj1 {args:List W} {h h':Hq} {v:V} (e:Zou args h=some (v,h')):Zb 266 args h v h':=by
 unfold Zou at e
 split at e
 ·rename_i p
  obtain⟨x,hx,e⟩:=Zk e
  obtain⟨ns,rfl,hl,hp⟩:=J6 hx
  obtain⟨b,e⟩:=Zu.1 e
  cases e
  rw[Gr,Zax]
  refine Zx.tidy ⟨Tryz.f266,Tryz.func266,kR,by decide⟩ fun tidy=>?_
  have hst:=Md b
  have l0:=tidy _ _ hst
  have l1:=tidy _ _ hp
  obtain⟨v,h',c,rfl,hk⟩:∃ v h',Zb 266 [.c (.ptr p 0)] h v h'/\v=.w (.c (.int .u32 ((Qx ns:Nat):Int)))/\∀ m,m<h.next->h'.get m=h.get m:=by
   refine Ym Hh Tryz.f266 ?_
   repeat (first|apply Z6|apply Yc|((first|apply Goes.Zi|apply gO fits Hh (EY Za (Z4e Hh))); · simp (maxSteps:=9^6) +decide (disch:=first|exact dZ|fail) only [go_sem,Zm,Zh,simprocAttr,hp,hl,hst,Uj,Bf,bound,Dy,Nat.add_zero,read1,Js,Rl,Uo,List.replicate_succ,List.replicate_zero]<;>rfl))
   exact⟨_,_,Zd,rfl,fun m hm=>by exact Yn⟩
  exact c.quiet rfl hk
 ·cases e
theorem Zzc {args:List W} {h h':Hq} {v:V} (e:Zus args h=some (v,h')):Zb 216 args h v h':=by
 unfold Zus at e
 split at e
 ·rename_i p
  obtain⟨x,hx,e⟩:=Zk e
  obtain⟨ns,rfl,hl,hp⟩:=J6 hx
  obtain⟨b,e⟩:=Zu.1 e
  cases e
  have hst:=Md b
  have cl:=Z0k ns
  rw[Gr,Xh,Zax]
  obtain⟨g,hg⟩:=xzE (Qx ns)
  rw[hg] at cl ⊢
  refine fnG Hh Tryz.f216 ?_
  have Jf:=J4 @hp @hl @hst @hg
  repeat (first|refine Zn Hh (EY (EY Za (Zj1 Hh)) (Zzb Hh)) Zq ?_)
  exact Zd
 ·cases e
theorem Zrx {args:List W} {h h':Hq} {v:V} (e:Zj0 args h=some (v,h')):Zb 209 args h v h':=by
 unfold Zj0 at e
 split at e
 ·rename_i p
  obtain⟨x,hx,e⟩:=Zk e
  obtain⟨ns,rfl,hl,hp⟩:=J6 hx
  obtain⟨b,e⟩:=Zu.1 e
  cases e
  have hst:=Md b
  rw[Gr,Zax,Vz]
  refine fnG Hh Tryz.f209 ?_
  have Jf:=Jh @hp @hl @hst
  repeat (first|apply Z6|apply Yc|refine Zn Hh (EY (EY Za (Zza Hh)) (Zj1 Hh)) Zq ?_)
  exact Zd
 ·cases e
theorem Zot {args:List W} {h h':Hq} {v:V} (e:Zfg args h=some (v,h')):Zb 210 args h v h':=by
 unfold Zfg at e
 split at e
 ·obtain⟨a,ha,e⟩:=Zk e
  obtain⟨b,hb,e⟩:=Zk e
  obtain⟨x,hx,e⟩:=Zk e
  obtain⟨ns,rfl,hl,hp⟩:=J6 hx
  obtain⟨bb,e⟩:=Zu.1 e
  simp only[aQ,decide_eq_true_eq] at bb
  obtain⟨b1,b2⟩:=bb
  cases e
  rw[Yb ha,Yb hb,Gr,Zea]
  refine fnG Hh Tryz.f210 ?_
  have Jf:=Gq @hp @hl @Nat.add_zero @Nat.zero_add @Nat.mul_one
  repeat (first|apply Z6|apply Yc|refine Zn Hh (EY Za (Zbj Hh)) Zat ?_)
  rfl
 ·cases e
end
end
end Go.Proofs.YtmanipmhebgdbaaGreatDoor
