/- paths.Of: the ways to the first blocks of a file, by the kernel. -/
import Derived.Test.YtmanipmhebgdbaaGreatDoorSli
set_option maxRecDepth 100000
set_option maxHeartbeats 4000000
set_option linter.unusedSimpArgs false
set_option linter.unusedVariables false
set_option linter.unusedSectionVars false
namespace Go.Proofs.YtmanipmhebgdbaaGreatDoor
open Go.Ev
noncomputable section
def F9 (i:Nat):Nat × Lq:=if i<8 then (i,[]) else if i<72 then (8,[i - 8]) else (9,[(i - 72) / 64,(i - 72) % 64])
def okI:Lq->List (List C)->Bool
 | [],r=>r.isEmpty
 | x :: l,r=>match r with
  | [.int .i64 a] :: r'=>decide (a=(x:Int))&&okI l r'
  | _=>false
theorem Z22:∀ {l:Lq} {r:List (List C)},okI l r=true->r=rwI l
 | [],r,h=>List.isEmpty_iff.1 h
 | x :: l,r,h=>by
  unfold okI at h
  split at h
  ·rename_i a r'
   rw[aQ] at h
   rw[Z22 h.2,show a=(x:Int) from of_decide_eq_true h.1]
   rfl
  ·cases h
def ofC (i:Nat):Bool:=match Z3p (evX K x00 5000 (.call 218 [.c (.int .i64 (i:Int))] ⟨.nil,1⟩)) with
 | some (p,r)=>decide (p=((F9 i).1:Nat))&&okI (F9 i).2 r
 | none=>false
theorem Yez:(List.range 22).all (fun k=>ofC k)=true:=kR
theorem Ye0:(List.range 22).all (fun k=>ofC (22+k))=true:=kR
theorem Ye1:(List.range 22).all (fun k=>ofC (44+k))=true:=kR
theorem Ye2:(List.range 22).all (fun k=>ofC (66+k))=true:=kR
theorem Ye3:(List.range 22).all (fun k=>ofC (88+k))=true:=kR
theorem Ydy (i:Nat) (h:i<110):Z3p (evX K x00 5000 (.call 218 [.c (.int .i64 (i:Int))] ⟨.nil,1⟩))=some ((((F9 i).1:Nat):Int),rwI (F9 i).2):=by
 have c:ofC i=true:=by
  rcases Nat.lt_or_ge i 22 with w|w
  ·exact List.all_eq_true.1 Yez i (List.mem_range.2 w)
  rcases Nat.lt_or_ge i 44 with w2|w2
  ·have:=List.all_eq_true.1 Ye0 (i - 22) (List.mem_range.2 oM); rwa [show 22+(i - 22)=i by omega] at this
  rcases Nat.lt_or_ge i 66 with w3|w3
  ·have:=List.all_eq_true.1 Ye1 (i - 44) (List.mem_range.2 oM); rwa [show 44+(i - 44)=i by omega] at this
  rcases Nat.lt_or_ge i 88 with w4|w4
  ·have:=List.all_eq_true.1 Ye2 (i - 66) (List.mem_range.2 oM); rwa [show 66+(i - 66)=i by omega] at this
  ·have:=List.all_eq_true.1 Ye3 (i - 88) (List.mem_range.2 oM); rwa [show 88+(i - 88)=i by omega] at this
 unfold ofC at c
 split at c
 ·rename_i p r e
  rw[aQ] at c
  rw[e,Z22 c.2,show p=(((F9 i).1:Nat):Int) from of_decide_eq_true c.1]
 ·cases c
theorem Z39 {i:Nat} (h:i<110):(F9 i).1<11/\∀ w∈(F9 i).2,w<64:=by
 unfold F9
 split
 ·exact⟨by show i<11; omega,fun w hw=>by simp at hw⟩
 ·split
  ·exact⟨by show 8<11; omega,fun w hw=>by simp at hw; omega⟩
  ·exact⟨by show 9<11; omega,fun w hw=>by simp at hw; omega⟩
section
variable (Hh:Hearts K Tryz.prog)
include Hh
theorem Ydz {i:Nat} (hi:i<110) {h:Hq} (h0:0<h.next):∃ h' s,Zb 218 [.c (.int .i64 (i:Int))] h (.tup [.c (.int .i64 ((F9 i).1:Nat)),.c s,.c (.int .i64 0)]) h'/\h.next<=h'.next/\(∀ m,m<h.next->h'.get m=h.get m)/\SlI h' s (F9 i).2/\∀ p o n z,s=.slice p o n z->h.next<=p/\p<h'.next:=by
 obtain⟨h',s,c,n,k,r⟩:=Zu.Z6i fits Hh Zo7 gl (Ydy i hi) rfl h h0
 refine⟨h',s,c,n,k,?_,fun p o l z e=>?_⟩
 ·rcases r with ⟨e,rfl⟩|⟨q,q1,q2,rfl,ho,el⟩
  ·left
   refine⟨?_,rfl⟩
   have:=congrArg List.length e
   rw[Zhq] at this
   exact List.eq_nil_of_length_eq_zero this
  ·rw[Zhq] at el ⊢
   exact .inr ⟨q,el,rfl,ho⟩
 ·rcases r with ⟨_,rfl⟩|⟨q,q1,q2,rfl,ho,el⟩
  ·cases e
  ·cases e; exact⟨q1,q2⟩
end
def Tn (md:Int) (T:Lq) (z:Nat):Lq:=if md=3 then T else z :: T
section
variable {n q a b c e:Nat} {cr:Cr} {md:Int} {h:Hq} {S T:Lq} {V:Nat->Lq}
theorem HE.more (M:HE n q a b c e cr md S T V h) {T':Lq} (s:∀ z∈T,z∈T'):HE n q a b c e cr md S T' V h:=by
 obtain⟨d,d1,d2,kn,ld,lt,lc,lm,L,f1,f2,f3,f4,f5,f6,f7,f8,f9,f10,f11,M⟩:=M
 exact⟨d,d1,d2,kn,ld,lt,lc,lm,L,f1,f2,f3,f4,f5,f6,f7,f8,f9,fun z y hz=>by obtain⟨k,hk,e⟩:=f10 z y hz; exact⟨k,s k hk,e⟩,f11,M⟩
end
attribute [go_sem] ty41 sz41 ag41 de41 ty43 sz43 ag43 fo43_0 fo43_1 fo43_2 fo43_3 fo43_4 fo43_5 bu43 ze43
def q167 (p:Lq):Code:=piece p (J7 Tryz.f167)
theorem rs52:Tryz.f52.results.toList=[.tmp 2]:=rfl
theorem rs169:Tryz.f169.results.toList=[.tmp 2]:=rfl
theorem rs171:Tryz.f171.results.toList=[.tmp 2]:=rfl
theorem rs236:Tryz.f236.results.toList=[.tmp 4]:=rfl
theorem rs167:Tryz.f167.results.toList=[.tmp 6,.tmp 7]:=rfl
attribute [go_sem] rs52 rs169 rs171 rs236 rs167
def Zvm:Kn1:=fun args h=>match args with
 | [.c (.ptr s 0)]=>(Gn h s).bind fun S=>(Dz h S.gd).bind fun G=>some (.w (.c (.int .u8 G.md)),h)
 | _=>none
def Zu6:Kn1:=fun args h=>match args with
 | [.c (.ptr s 0)]=>(Gn h s).bind fun S=>(Dz h S.gd).bind fun G=>some (.w (.c (.bool (G.md != 0))),h)
 | _=>none
def Zu7:Kn1:=fun args h=>match args with
 | [.c (.ptr s 0)]=>(Gn h s).bind fun S=>(Dz h S.gd).bind fun _=>(Oe h S.tx).bind fun X=>Y5 X.op (some (.w (.c (.int .i64 0)),h))
 | _=>none
attribute [go_sem] Zvm Zu6 Zu7
def Z6t (V:Nat->Lq) (b w:Nat):Nat:=if b=0 then 0 else Yj (V b) (4 * w)
def Zag (V:Nat->Lq) (b:Nat) (ws:Lq):Nat:=ws.foldl (Z6t V) b
theorem Zl2 (V:Nat->Lq):∀ ws,Zag V 0 ws=0
 | []=>rfl
 | w :: ws=>by
  show Zag V (Z6t V 0 w) ws=0
  rw[show Z6t V 0 w=0 from if_pos rfl]
  exact Zl2 V ws
theorem Zym (V:Nat->Lq) (b:Nat) (ws:Lq) (w:Nat):Zag V b (ws++[w])=Z6t V (Zag V b ws) w:=by
 unfold Zag
 rw[List.foldl_append]
 rfl
def Z9a (a b c e:Nat) (V:Nat->Lq) (b0:Nat) (ws:Lq):Prop:=∀ j,j<ws.length->Zag V b0 (ws.take j)≠0->Bb a b c e ((Zag V b0 (ws.take j):Nat):Int)=true/\Zag V b0 (ws.take j)<2+e+a * b
section
variable (Hh:Hearts K Tryz.prog)
include Hh
theorem Zbx {args:List W} {h h':Hq} {v:V} (e:Zvm args h=some (v,h')):Zb 52 args h v h':=by
 unfold Zvm at e
 split at e
 ·rename_i s
  obtain⟨S,hs,e⟩:=Zk e
  have hs:=Y2 hs
  obtain⟨G,hg,e⟩:=Zk e
  obtain⟨hg,fb⟩:=Jj hg
  cases e
  refine fnG Hh Tryz.f52 ?_
  repeat (first|apply Z6|apply Yt|apply Yc|((first|apply Goes.Zh|apply Goes.ops2 fits Hh (EY Za (O7 Hh))); · simp (maxSteps:=9^6) +decide (disch:=first|exact dZ|fail) only [go_sem,Zn,Zi,simprocAttr,hs,hg,gdL,read1]<;>rfl))
  exact Zf
 ·cases e
theorem Zm2 {args:List W} {h h':Hq} {v:V} (e:Zu6 args h=some (v,h')):Zb 169 args h v h':=by
 unfold Zu6 at e
 split at e
 ·rename_i s
  obtain⟨S,hs,e⟩:=Zk e
  have hs:=Y2 hs
  obtain⟨G,hg,e⟩:=Zk e
  obtain⟨hg,fb⟩:=Jj hg
  cases e
  refine fnG Hh Tryz.f169 ?_
  repeat (first|apply Z6|apply Yc|((first|apply Goes.Zh|apply Goes.ops2 fits Hh (EY Za (Zbx Hh))); · simp (maxSteps:=9^6) +decide (disch:=first|exact dZ|fail) only [go_sem,Zn,Zi,simprocAttr,hs,hg,gdL,fb]<;>rfl))
  exact Zf
 ·cases e
theorem Zz2 {args:List W} {h h':Hq} {v:V} (e:Zu7 args h=some (v,h')):Zb 171 args h v h':=by
 unfold Zu7 at e
 split at e
 ·rename_i s
  obtain⟨S,hs,e⟩:=Zk e
  have hs:=Y2 hs
  obtain⟨G,hg,e⟩:=Zk e
  obtain⟨hg,fb⟩:=Jj hg
  obtain⟨X,ht,e⟩:=Zk e
  have ht:=Yr ht
  obtain⟨bo,e⟩:=Zv.1 e
  cases e
  refine fnG Hh Tryz.f171 ?_
  repeat (first|apply Z6|apply Yt|apply Yc|((first|apply Goes.Zh|apply Goes.ops2 fits Hh (EY (EY Za (Xy Hh)) (Za3 Hh))); · simp (maxSteps:=9^6) +decide (disch:=first|exact dZ|fail) only [go_sem,Zn,Zi,simprocAttr,hs,ht,hg,gdL,fb,bo]<;>rfl))
  exact Zf
 ·cases e
theorem Yeu {h:Hq} {p w:Nat} {ns:Lq} (nl:ns.length=256) (hp:h.get p=some (.row 256 [pgL ns] false)) (hw:w<64):Zb 236 [.c (.ptr p 0),.c (.int .i64 (w:Int))] h (.w (.c (.int .i64 ((Yj ns (4 * w):Nat):Int)))) h:=by
 have e1:(4:Int) * (w:Int)=((4 * w:Nat):Int):=rfl
 have g4:=Zn8 ns (4 * w)
 have xl:(pgL ns).length=256:=by rw[J3,nl]
 have xb:=Ze0 ns
 have u4:Yj (unN (pgL ns)) (4 * w)=Yj ns (4 * w):=by rw[Gp,Xc]
 have r5:read1 256 [pgL ns] 255=some (.int .u8 ((atN ns 255:Nat):Int)):=Zrx ⟨oM,oM⟩
 have rd:reaches 0 256 (some (.row 256 [pgL ns] false))=true:=by
  show (match read1 256 [pgL ns] 255 with|some _=>Nat.ble 1 256|none=>false)=true
  rw[r5]
  rfl
 obtain⟨Y,hY⟩:=xzE (pgL ns)
 obtain⟨z,hz⟩:=xzE (Yj ns (4 * w))
 obtain⟨u,hu⟩:=xzE (4 * w)
 have ul:u+4<=256:=oM
 rw[hY] at hp xl xb u4 rd
 rw[hz] at u4 g4 ⊢
 rw[hu] at u4 e1
 refine fnG Hh Tryz.f236 ?_
 have Jf:=Lc @e1 @hp @xl @xb @u4 @rd @Nat.zero_add
 repeat (first|apply Z6|apply Yc|refine Zo Hh (EY Za (Mo Hh)) Za6 ?_)
 exact Zf
variable {n q a b c e:Nat} {cr:Cr} {md:Int} {S T:Lq} {V:Nat->Lq}
theorem Z12 (f:Yw a b c e=true) {b0:Nat} {ws:Lq} {s:C} (w0:Z9a a b c e V b0 ws) (w64:∀ w∈ws,w<64) (wl:ws.length<=8):∀ (k j:Nat) (ts:Zx) (h:Hq),j+k=ws.length->HE n q a b c e cr md S T V h->SlI h s ws->(∀ p o n z,s=.slice p o n z->q+9<=p/\p<h.next)->Zg ts 0=.w (.c (.ptr (n+13) 0))->Zg ts 33=.w (.c s)->Zg ts 34=.w (.c (.int .i64 (ws.length:Nat)))->Zg ts 35=.w (.c (.int .i64 (j:Nat)))->Zg ts 11=.w (.c (.int .i64 (Zag V b0 (ws.take j):Nat))) ->
  Z8 54 none (q167 [1,1,1,1,1,0,1,2]) [] ts h fun x ds' ts' h'=>x=.exit 0/\ds'=[]/\HE n q a b c e cr md S T V h'/\Kr n q h h'/\Zg ts' 11=.w (.c (.int .i64 (Zag V b0 ws:Nat))):=by
 obtain⟨g1,g2,g3,g4,g5,g6,g7,g8,g9,g10,g11⟩:=Z5 f
 intro k
 induction k with
 | zero =>
  intro j ts h hj M sl sb t0 t33 t34 t35 t11
  obtain rfl:j=ws.length:=oM
  rw[List.take_length] at t11
  have dl:decide ((ws.length:Int)<(ws.length:Int))=false:=decide_eq_false oM
  have Jf:=Ja @t34 @t35 @dl
  iterate 6 (first|refine Goes.Zh Zm ?_|refine Zo Hh Za Zm ?_|apply gS)
  refine⟨rfl,rfl,M,⟨Nat.le_refl _,fun _ _ _=>rfl⟩,?_⟩
  simp (maxSteps:=9^6) +decide (disch:=first|exact dZ|fail) only [go_sem,Zn,Zi,simprocAttr,t11]
 | succ k ih =>
  intro j ts h hj M sl sb t0 t33 t34 t35 t11
  have jl:j<ws.length:=oM
  obtain⟨w,hw⟩:∃ w,ws[j]? = some w:=⟨_,List.getElem?_eq_getElem jl⟩
  have w6:=w64 w (List.mem_of_getElem? hw)
  have tk:ws.take (j+1)=ws.take j++[w]:=by rw[List.take_add_one,hw]; rfl
  have sn:=Zym V b0 (ws.take j) w
  rw[<-tk] at sn
  have rd:=rdI hw
  have dl:decide ((j:Int)<(ws.length:Int))=true:=decide_eq_true oM
  have wo:=w0 j jl
  have sl0:=sl
  obtain⟨e0,_⟩|⟨p,_,rfl,hp⟩:=sl
  ·rw[e0] at jl; simp at jl
  have pb:=sb _ _ _ _ rfl
  have lf:=Zjd
  have t33':=t33
  have t34':=t34
  obtain⟨nq,nx,n0⟩:=M.nx
  obtain⟨N,hN⟩:=xzE (ws.length)
  obtain⟨R,hR⟩:=xzE (rwI ws)
  rw[hN] at t33' t34' dl jl
  rw[hR] at hp rd
  by_cases b0':Zag V b0 (ws.take j)=0
  ·rw[b0'] at t11
   have all0:Zag V b0 ws=0:=by
    have:ws=ws.take j++ws.drop j:=(List.take_append_drop j ws).symm
    rw[this]
    unfold Zag at b0' ⊢
    rw[List.foldl_append,b0']
    exact Zl2 V _
   have ez:(((0:Nat):Int) == 0)=true:=rfl
   rw[all0]
   have Jf:=Yu @t33' @t34' @t35 @t11 @dl @lf @hp @rd @ez
   iterate 15 (first|apply Z6|apply Yt|apply Qv|apply Bv|apply Ea|refine Goes.Zh Zm ?_|refine Zo Hh Za Zm ?_)
   show _/\_/\_
   refine⟨rfl,rfl,M,⟨Nat.le_refl _,fun _ _ _=>rfl⟩,?_⟩
   exact Zm
  ·obtain⟨ob,bl⟩:=wo b0'
   have e1:Zag V b0 (ws.take (j+1))=Yj (V (Zag V b0 (ws.take j))) (4 * w):=by rw[sn]; exact if_neg b0'
   obtain⟨B,hB⟩:=xzE (Zag V b0 (ws.take j))
   rw[hB] at t11 ob bl e1 b0'
   have ez:((B:Int) == 0)=false:=D7 oM
   obtain⟨hG,eG,MG,nG,rG⟩:=M.get f ob bl
   have c11:=Dp Hh eG
   have vl:=M.len ob bl
   have Yl:(pgL (V B)).length=256:=by rw[J3,vl]
   have cP:=fun {h:Hq} {p:Nat} (hp:h.get p=some (.row 256 [pgL (V B)] false))=>Yeu Hh vl hp w6
   obtain⟨z,hz⟩:=xzE (Yj (V B) (4 * w))
   obtain⟨Y,hY⟩:=xzE (pgL (V B))
   rw[hY] at c11 Yl
   simp only[hz,hY] at cP
   rw[hz] at e1
   have Jf:=Ja @t0 @t33' (Yu @t34' @t35 @t11 @dl @lf @hp @rd @ez @Yl)
   iterate 16 (first|refine Goes.Zh Zr ?_|refine Zo Hh Za Zr ?_|apply gS)
   iterate 6 (first|refine Goes.Zh Zr ?_|refine Zo Hh (Zj Za c11) Zr ?_|apply gS)
   refine Jo fun hA eA=>?_
   have nA:hA.next=h.next+1:=by rw[eA]; simp only[H.Zd,H.Zc,nG]
   have kA:∀ m,m<h.next->m≠n+6->hA.get m=h.get m:=fun m hm hne=>by rw[eA]; refine Eq.trans ?_ (rG m hm hne); exact Ym
   have bA:hA.get h.next=some (.row 256 [Y] false):=by rw[eA,<-nG]; exact Zr
   have MA:=MG.keep (h2:=hA) oM (fun m hm=>by rw[eA]; exact Ym)
   clear eA
   have c14:=cP bA
   rw[<-nG] at c14
   iterate 2 (refine Zo Hh (Zj Za c14) Zr ?_)
   show Z8 54 none (q167 [1,1,1,1,1,0,1,2]) _ _ _ _
   refine (ih (j+1) _ hA oM MA (sl0.keep fun p' o n' z e=>by cases e; exact kA p oM oM) (fun p' o n' z e=>by cases e; exact⟨pb.1,oM⟩) ?_ ?_ ?_ ?_ ?_).mono ?_
   ·have Jf:=@t0; exact Zm
   ·have Jf:=@t33; exact Zm
   ·have Jf:=@t34; exact Zm
   ·exact Zf
   ·rw[e1]; exact Zf
   rintro x' ds' ts' h' ⟨w1,w2,w3,w4,w5⟩
   exact⟨w1,w2,w3,⟨by have:=w4.1; omega,fun m hm hne=>(w4.2 m oM hne).trans (kA m hm hne)⟩,w5⟩
end
structure InoP (x:List C) (P:Nat->Nat):Prop where
 xl:x.length=16
 pt:∀ i,i<11->x[4+i]? = some (.int .u32 (P i:Nat))
 pb:∀ i,i<11->P i<4294967296
theorem InoP.rd {x:List C} {P:Nat->Nat} (X:InoP x P) {i:Nat} (hi:i<11):read1 16 [x] (4+i)=some (.int .u32 (P i:Nat)):=by
 have:=Dh (L:=[x]) (sz:=16) (i:=0) (j:=4+i) oM rfl
 rw[Nat.zero_mul,Nat.zero_add] at this
 rw[this]
 exact X.pt i hi
def Zbz (V:Nat->Lq) (P:Nat->Nat) (i:Nat):Nat:=Zag V (P (F9 i).1) (F9 i).2
theorem Zxg (i:Nat):(F9 i).2.length<=8:=by
 unfold F9
 split
 ·exact (by omega:0<=8)
 ·split
  ·exact (by omega:1<=8)
  ·exact (by omega:2<=8)
section
variable (Hh:Hearts K Tryz.prog)
include Hh
variable {n q a b c e:Nat} {cr:Cr} {md:Int} {S T:Lq} {V:Nat->Lq} {h:Hq}
theorem Z7h (f:Yw a b c e=true) (m0:md≠0) (M:HE n q a b c e cr md S T V h) {x:List C} {P:Nat->Nat} (X:InoP x P) {i:Nat} (hi:i<110) (w0:Z9a a b c e V (P (F9 i).1) (F9 i).2) :
  ∃ h',Zb 167 [.c (.ptr (n+13) 0),.g x,.c (.int .i64 (i:Int))] h (.tup [.c (.int .i64 (Zbz V P i:Nat)),.c (.int .i64 0)]) h'/\HE n q a b c e cr md S T V h'/\Kr n q h h':=by
 obtain⟨nq,nx,n0⟩:=M.nx
 obtain⟨st,⟨kn,hs⟩,⟨dk,gl⟩,ht⟩:=M.cells
 unfold gdL gdD at gl
 have dm:(md != 0)=true:=Nu m0
 obtain⟨p11,w6⟩:=Z39 hi
 have xl:=X.xl
 have rx:=X.rd p11
 have pb:=X.pb _ p11
 have wl:=Zxg i
 unfold Zbz
 obtain⟨ws,hws⟩:=xzE ((F9 i).2)
 have hO:=fun {h:Hq} (h0:0<h.next)=>Ydz Hh hi (h:=h) h0
 obtain⟨pk,hpk⟩:=xzE ((F9 i).1)
 simp only[hws,hpk] at hO w0 w6 p11 rx pb wl ⊢
 obtain⟨b0,hb0⟩:=xzE (P pk)
 rw[hb0] at rx pb w0 ⊢
 have lp:=fun s=>Z12 Hh (n:=n) (q:=q) (cr:=cr) (md:=md) (S:=S) (T:=T) (s:=s) f w0 w6 wl ws.length 0
 refine O1 ?_
 refine Yk Hh Tryz.f167 ?_
 have Jf:=G6 @f @hs @gl @dm @xl
 iterate 8 (first|refine Goes.Zh Yd ?_|refine Zo Hh (EY Za (Zm2 Hh)) Yd ?_|apply gS)
 refine Jo fun hA eA=>?_
 have nA:hA.next=h.next+1:=nxQ eA
 have kA:∀ m,m<h.next->hA.get m=h.get m:=kQ eA
 have bA:hA.get h.next=some (.row 16 [x] false):=by rw[eA]; exact Zr
 clear eA
 obtain⟨hB,s,c3,nB,kB,sB,lB⟩:=hO (h:=hA) oM
 have bB:=(kB h.next oM).trans bA
 have MB:=M.keep (h2:=hB) oM (fun m hm=>(kB m oM).trans (kA m oM))
 obtain⟨lf,ln⟩:=Ydq sB
 have Jf:=Lc Jf @bB @rx @pb @p11 @lf @ln
 iterate 12 (first|refine Goes.Zh Yd ?_|refine Zo Hh (Zj Za c3) Yd ?_|apply gS)
 refine (lp s _ hB oM MB sB (fun p o n z e=>⟨by have:=(lB p o n z e).1; omega,(lB p o n z e).2⟩) ?_ ?_ ?_ ?_ ?_).mono ?_
 ·exact Zf
 ·exact Zf
 ·exact Zf
 ·exact Zf
 ·exact Zf
 rintro x1 ds1 ts1 h1 ⟨rfl,rfl,M1,k1,t11⟩
 have Jf:=@t11
 iterate 3 (first|refine Zo Hh Za Zm ?_|apply gS)
 exact⟨_,_,Zm,rfl,M1,⟨by have:=k1.1; omega,fun m hm hne=>(k1.2 m oM hne).trans ((kB m oM).trans (kA m hm))⟩⟩
end
theorem ty384:K.types.get 384=some ti384:=kR
theorem sz384:ti384.size=1:=by rfl
theorem ag384:ti384.agg=false:=by rfl
attribute [go_sem] ty384 sz384 ag384
theorem rs219:Tryz.f219.results.toList=[.tmp 6,.tmp 7]:=rfl
theorem rs271:Tryz.f271.results.toList=[.tmp 8,.tmp 9,.tmp 10]:=rfl
attribute [go_sem] rs219 rs271
theorem Z29 {ts:Zx} {h:Hq} (t:Go.TypeId) (x:Go.Operand) (lo hi:Option Go.Operand):U4 K ts h (.slice t x lo hi none)=Gr h (Ol K h (K.types.get t) (Z4 K ts x) (Eb K ts lo) (Eb K ts hi)):=rfl
attribute [go_sem] Z29
theorem Ye6 (c:C):read1 1 [[c]] 0=some c:=rfl
def zer0:Lq:=List.replicate 256 0
theorem Z5l:zer0.length=256:=rfl
theorem Zxm:pgL zer0=List.replicate 256 (.int .u8 0):=kR
structure AlcV (n q a b c e:Nat) (cr:Cr) (md:Int) (S:Lq) (Al:(Nat->Lq)->Nat->Prop) (blk:Nat->Nat) (cap:Nat) (mt nk:Nat->Prop):Prop where
 take:∀ {V:Nat->Lq} {h:Hq} {T:Lq} {m near:Nat},HE n q a b c e cr md S T V h->Al V m->m<cap->nk near->(∀ z,mt z->z ∉ T)->∃ h' V',Zb 270 [.c (.ptr (n+13) 0),.c (.int .i64 (near:Int))] h (.tup [.c (.int .i64 (blk m:Nat)),.c (.int .i64 0)]) h'/\HE n q a b c e cr md S T V' h'/\Kp n q h h'/\Al V' (m+1)/\∀ z,¬ mt z->V' z=V z
 upd:∀ {V:Nat->Lq} {m z:Nat} {x:Lq},Al V m->¬ mt z->Al (Gf V z x) m
 our4:∀ m,m<cap->Bb a b c e (blk m:Nat)=true/\blk m<2+e+a * b/\0<blk m/\¬ mt (blk m)
 inj:∀ m m',m<cap->m'<cap->blk m=blk m'->m=m'
structure AlcW (n q a b c e:Nat) (cr:Cr) (md:Int) (S:Lq) (Al:(Nat->Lq)->Nat->Prop) (blk:Nat->Nat) (cap:Nat) (mt nk:Nat->Prop):Prop extends AlcV n q a b c e cr md S Al blk cap mt nk where
 sS:∀ m,m<cap->blk m∈S
theorem AlcW.ours {n q a b c e:Nat} {cr:Cr} {md:Int} {S:Lq} {Al:(Nat->Lq)->Nat->Prop} {blk:Nat->Nat} {cap:Nat} {mt nk:Nat->Prop} (A:AlcW n q a b c e cr md S Al blk cap mt nk) (m:Nat) (h:m<cap):Bb a b c e (blk m:Nat)=true/\blk m<2+e+a * b/\0<blk m/\¬ mt (blk m)/\blk m∈S:=by
 obtain⟨o1,o2,o3,o4⟩:=A.our4 m h
 exact⟨o1,o2,o3,o4,A.sS m h⟩
structure Alc (n q a b c e:Nat) (cr:Cr) (md:Int) (S:Lq) (Al:(Nat->Lq)->Nat->Prop) (blk:Nat->Nat) (cap:Nat) (mt nk:Nat->Prop):Prop extends AlcW n q a b c e cr md S Al blk cap mt nk where
 near:nk 0/\∀ m,m<cap->nk (blk m)
section
variable (Hh:Hearts K Tryz.prog)
include Hh
variable {n q a b c e:Nat} {cr:Cr} [Opn cr] {md:Int} {S T:Lq} {V:Nat->Lq} {h:Hq} {Al:(Nat->Lq)->Nat->Prop} {blk:Nat->Nat} {cap:Nat} {mt nk:Nat->Prop} {m:Nat}
theorem Ya6 (f:Yw a b c e=true) (A:AlcV n q a b c e cr md S Al blk cap mt nk) {lv:Nat} (lS:0<lv->blk m∈S) (M:HE n q a b c e cr md S T V h) (al:Al V m) (mc:m<cap) {near:Nat} (nr:nk near) (hT:∀ z,mt z->z ∉ T) (bT:blk m ∉ T) (lv8:lv<=8) :
  ∃ h' V',Zb 219 [.c (.ptr (n+13) 0),.c (.int .i64 (lv:Int)),.c (.int .i64 (near:Int))] h (.tup [.c (.int .i64 (blk m:Nat)),.c (.int .i64 0)]) h'/\HE n q a b c e cr md S T V' h'/\Kp n q h h'/\Al V' (m+1)/\(∀ z,¬ mt z->z≠blk m->V' z=V z)/\(0<lv->V' (blk m)=zer0):=by
 obtain⟨o1,o2,o3,o4⟩:=A.our4 m mc
 obtain⟨hA,V1,c1,MA,kA,alA,vA⟩:=A.take M al mc nr hT
 by_cases l0:lv=0
 ·subst l0
  have d0:decide ((((0:Nat):Int)) > 0)=false:=rfl
  obtain⟨v,h',cc,rfl,rfl⟩:∃ v h',Zb 219 [.c (.ptr (n+13) 0),.c (.int .i64 ((0:Nat):Int)),.c (.int .i64 (near:Int))] h v h'/\v=.tup [.c (.int .i64 (blk m:Nat)),.c (.int .i64 0)]/\h'=hA:=by
   refine Yk Hh Tryz.f219 ?_
   have Jf:=@d0
   iterate 3 (first|refine Zo Hh Za Zm ?_|apply gS)
   iterate 14 (first|refine Goes.Zh Zm ?_|refine Zo Hh (Zj Za c1) Zm ?_|apply gS)
   exact⟨_,_,Zf,rfl,rfl⟩
  exact⟨_,V1,cc,MA,kA,alA,fun z hz _=>vA z hz,fun w=>absurd w oM⟩
 ·have d0:decide ((lv:Int) > 0)=true:=decide_eq_true oM
  obtain⟨hB,e5,MB,nB,kB⟩:=MA.put f o1 o2 Z5l (lS oM) bT
  have c5:=L8 Hh e5
  rw[Zxm] at c5
  obtain⟨v,h',cc,rfl,rfl⟩:∃ v h',Zb 219 [.c (.ptr (n+13) 0),.c (.int .i64 (lv:Int)),.c (.int .i64 (near:Int))] h v h'/\v=.tup [.c (.int .i64 (blk m:Nat)),.c (.int .i64 0)]/\h'=hB:=by
   refine Yk Hh Tryz.f219 ?_
   have Jf:=@d0
   iterate 3 (first|refine Zo Hh Za Zm ?_|apply gS)
   iterate 11 (first|refine Goes.Zh Zm ?_|refine Zo Hh (Zj Za c1) Zm ?_|apply gS)
   iterate 8 (first|refine Goes.Zh Zm ?_|refine Zo Hh (Zj Za c5) Zm ?_|apply gS)
   exact⟨_,_,Zf,rfl,rfl⟩
  refine⟨_,Gf V1 (blk m) zer0,cc,MB,⟨by have:=kA.1; omega,fun p hp ho=>(kB p ho.1).trans (kA.2 p hp ho)⟩,A.upd alA o4,fun z hz hne=>by rw[Jd hne]; exact vA z hz,fun _=>Bc ..⟩
variable {p4 p11 p o k:Nat} {L:Lq}
theorem Z3x (b0:Nat) (fr:Bool):Zb 271 [.c (.int .i64 (b0:Int)),.c .snil,.c (.bool fr),.c (.ptr p4 0),.c (.ptr p11 0)] h (.tup [.c (.int .i64 (b0:Int)),.c (.bool fr),.c (.int .i64 0)]) h:=by
 have lf:=Zhm
 refine fnG Hh Tryz.f271 ?_
 have Jf:=@lf
 iterate 9 (first|refine Goes.Zh Ut ?_|refine Zo Hh Za Ut ?_|apply gS)
 exact Zf
end
theorem rs220:Tryz.f220.results.toList=[.tmp 8,.tmp 9,.tmp 10]:=rfl
theorem rs146:Tryz.f146.results.toList=[.cell 8 43,.tmp 9,.tmp 10,.tmp 11]:=rfl
attribute [go_sem] rs220 rs146
section
variable (Hh:Hearts K Tryz.prog)
include Hh
variable {n q a b c e:Nat} {cr:Cr} [Opn cr] {md:Int} {S T:Lq} {V:Nat->Lq} {h:Hq} {Al:(Nat->Lq)->Nat->Prop} {blk:Nat->Nat} {cap:Nat} {mt nk:Nat->Prop} {m:Nat}
theorem Z7g (M:HE n q a b c e cr md S T V h) {b0:Nat} {s:C} {fr:Bool} {r1:Nat} {r2:Bool} {R:(Nat->Lq)->Prop}
  (rec:∀ h1 p4 p11,HE n q a b c e cr md S T V h1->h.next<=h1.next->(∀ m,m<h.next->h1.get m=h.get m)->h1.get p4=some (.row 1 [[.ptr (n+13) 0]] false)->h1.get p11=some (.row 1 [[.fn 271 [] [some (p4,0),some (p11,0)]]] false)->q+9<=p4/\p4<h1.next->q+9<=p11/\p11<h1.next->∃ h2,Zb 271 [.c (.int .i64 (b0:Int)),.c s,.c (.bool fr),.c (.ptr p4 0),.c (.ptr p11 0)] h1 (.tup [.c (.int .i64 (r1:Int)),.c (.bool r2),.c (.int .i64 0)]) h2/\Kp n q h1 h2/\∃ V',HE n q a b c e cr md S T V' h2/\R V') :
  ∃ h',Zb 220 [.c (.ptr (n+13) 0),.c (.int .i64 (b0:Int)),.c s,.c (.bool fr)] h (.tup [.c (.int .i64 (r1:Int)),.c (.bool r2),.c (.int .i64 0)]) h'/\Kp n q h h'/\∃ V',HE n q a b c e cr md S T V' h'/\R V':=by
 obtain⟨nq,nx,n0⟩:=M.nx
 refine O1 ?_
 refine Yk Hh Tryz.f220 ?_
 have Jf:=@Ye6
 iterate 7 (first|refine Zo Hh Za Zg5 ?_|apply gS)
 refine Jo fun hA eA=>?_
 have nA:hA.next=h.next+1+1:=nxQ eA
 have kA:∀ m,m<h.next->hA.get m=h.get m:=kQ eA
 have a4:hA.get h.next=some (.row 1 [[.ptr (n+13) 0]] false):=by rw[eA]; exact Zf
 have a11:hA.get (h.next+1)=some (.row 1 [[.fn 271 [] [some (h.next,0),some (h.next+1,0)]]] false):=by rw[eA]; exact Zf
 clear eA
 have MA:=M.keep (h2:=hA) oM (fun m hm=>kA m oM)
 obtain⟨hB,c3,kB,hR⟩:=rec hA h.next (h.next+1) MA oM kA a4 a11 ⟨oM,oM⟩ ⟨oM,oM⟩
 have Jf:=Yy Jf @a11
 iterate 2 (first|refine Zo Hh (Zj Za c3) Zg5 ?_|apply gS)
 exact⟨_,_,Zf,rfl,⟨by have:=kB.1; omega,fun m hm ho=>(kB.2 m oM ho).trans (kA m hm)⟩,hR⟩
theorem Ydu (f:Yw a b c e=true) (m0:md≠0) (A:AlcV n q a b c e cr md S Al blk cap mt nk) {i:Nat} (wS:0<(F9 i).2.length->blk m∈S) (M:HE n q a b c e cr md S T V h) (al:Al V m) (mc:m<cap) (hT:∀ z,mt z->z ∉ T) (bT:blk m ∉ T) (b32:blk m<4096) {x:List C} {P:Nat->Nat} (X:InoP x P) (hi:i<110) {near:Nat} (nr:nk near) (nz:P (F9 i).1=0) {r1:Nat} {r2:Bool} {R:(Nat->Lq)->Prop}
  (dn:∀ h1 s V1,HE n q a b c e cr md S T V1 h1->Al V1 (m+1)->(∀ z,¬ mt z->z≠blk m->V1 z=V z)->(0<(F9 i).2.length->V1 (blk m)=zer0)->SlI h1 s (F9 i).2->(∀ p o n z,s=.slice p o n z->q+9<=p/\p<h1.next)->∃ h2,Zb 220 [.c (.ptr (n+13) 0),.c (.int .i64 (blk m:Nat)),.c s,.c (.bool true)] h1 (.tup [.c (.int .i64 (r1:Int)),.c (.bool r2),.c (.int .i64 0)]) h2/\Kp n q h1 h2/\∃ V',HE n q a b c e cr md S T V' h2/\R V') :
  ∃ h',Zb 146 [.c (.ptr (n+13) 0),.g x,.c (.int .i64 (i:Int)),.c (.int .i64 (near:Int))] h (.tup [.g (x.set (4+(F9 i).1) (.int .u32 (blk m:Nat))),.c (.int .i64 (r1:Int)),.c (.bool r2),.c (.int .i64 0)]) h'/\Kp n q h h'/\∃ V',HE n q a b c e cr md S T V' h'/\R V':=by
 obtain⟨nq,nx,n0⟩:=M.nx
 obtain⟨st,⟨kn,hs⟩,⟨dk,gl⟩,ht⟩:=M.cells
 unfold gdL gdD at gl
 have dm:(md != 0)=true:=Nu m0
 obtain⟨p11,w6⟩:=Z39 hi
 have xl:=X.xl
 have rx:=X.rd p11
 have wl:=Zxg i
 have hO:=fun {h:Hq} (h0:0<h.next)=>Ydz Hh hi (h:=h) h0
 obtain⟨ws,hws⟩:=xzE ((F9 i).2)
 obtain⟨pk,hpk⟩:=xzE ((F9 i).1)
 simp only[hws,hpk] at hO dn p11 rx nz wl wS ⊢
 rw[nz] at rx
 have hTk:=fun {h:Hq} (M:HE n q a b c e cr md S T V h)=>Ya6 Hh f A wS M al mc nr hT bT wl
 obtain⟨G,hG'⟩:=xzE (blk m)
 simp only[hG'] at dn hTk ⊢
 rw[hG'] at b32
 have w8:Z0 16 [x] (4+pk) [.int .u32 (G:Int)]=some [x.set (4+pk) (.int .u32 (G:Int))]:=by
  have h1:(4+pk) / 16=0:=oM
  have h2:(4+pk) % 16=4+pk:=oM
  simp only[Z0,h1,h2,List.getElem?_cons_zero]
  rw[Zb5 oM,cond_true]
  rfl
 have wU:Jk .u32 (G:Int)=.int .u32 (G:Int):=Za2 oM
 have x1l:(x.set (4+pk) (.int .u32 (G:Int))).length=16:=by rw[List.length_set]; exact xl
 obtain⟨x1,hx1⟩:=xzE (x.set (4+pk) (.int .u32 (G:Int)))
 rw[hx1] at w8 x1l ⊢
 have ez:(((0:Nat):Int) == 0)=true:=rfl
 refine O1 ?_
 refine Yk Hh Tryz.f146 ?_
 have Jf:=Yu @f @hs @gl @ht @dm @xl @rx @p11 @ez
 iterate 8 (first|refine Goes.Zh Yd ?_|refine Zo Hh (EY Za (Zm2 Hh)) Yd ?_|apply gS)
 refine Jo fun hA eA=>?_
 have nA:hA.next=h.next+2:=nxQ eA
 have kA:∀ m,m<h.next->hA.get m=h.get m:=kQ eA
 have b5:hA.get h.next=some (.row 16 [x] false):=by rw[eA]; exact Zr
 obtain⟨y,yl,b8⟩:∃ y:List C,y.length=16/\hA.get (h.next+1)=some (.row 16 [y] false):=⟨_,rfl,by rw[eA]; exact Yn⟩
 clear eA
 obtain⟨hB,s,c3,nB,kB,sB,lB⟩:=hO (h:=hA) oM
 have B5:=(kB h.next oM).trans b5
 have B8:=(kB (h.next+1) oM).trans b8
 have MB:=M.keep (h2:=hB) oM (fun m hm=>(kB m oM).trans (kA m oM))
 obtain⟨_,⟨knB,hsB⟩,⟨dkB,glB⟩,htB⟩:=MB.cells
 unfold gdL gdD at glB
 obtain⟨lf,ln⟩:=Ydq sB
 have Jf:=Yu Jf @B5 @B8 @yl @hsB @glB @htB @lf @ln
 iterate 8 (first|refine Goes.Zh Yd ?_|refine Zo Hh (Zj Za c3) Yd ?_|apply gS)
 iterate 15 (first|refine Goes.Zh Yd ?_|refine Zo Hh (EY Za (Zz2 Hh)) Yd ?_|apply gS)
 refine Jo fun hC eC=>?_
 have nC:hC.next=hB.next:=by rw[eC]; simp only[H.Zd]
 have kC:∀ m,m<hB.next->m≠h.next+1->hC.get m=hB.get m:=fun m hm hne=>by rw[eC]; exact Ym
 have C8:hC.get (h.next+1)=some (.row 16 [x] false):=by rw[eC]; exact Zr
 clear eC
 have MC:=MB.keep (h2:=hC) oM (fun m hm=>kC m oM oM)
 obtain⟨hE,V1,c12,ME,kE,alE,vE,zE⟩:=hTk MC
 have nE:=kE.1
 have E8:=(kE.2 (h.next+1) oM ⟨⟨oM,oM,oM,oM,oM⟩,oM⟩).trans C8
 have Jf:=J6 Jf @E8 @w8 @wU
 iterate 10 (first|refine Goes.Zh Yd ?_|refine Zo Hh (Zj Za c12) Yd ?_|apply gS)
 refine Jo fun hF eF=>?_
 have nF:hF.next=hE.next:=by rw[eF]; simp only[H.Zd]
 have kF:∀ m,m≠h.next+1->hF.get m=hE.get m:=fun m hne=>by rw[eF,Ze hne]
 have F8:hF.get (h.next+1)=some (.row 16 [x1] false):=by rw[eF,Zy]
 clear eF
 have MF:=ME.keep (h2:=hF) oM (fun m hm=>kF m oM)
 obtain⟨hD,c17,kD,V',MD,rv⟩:=dn hF s V1 MF alE vE zE (sB.keep fun p o n' z e=>by
  have l1:=lB p o n' z e
  refine (kF p oM).trans ((kE.2 p oM ⟨⟨oM,oM,oM,oM,oM⟩,oM⟩).trans (kC p l1.2 oM))) (fun p o n z e=>⟨by have:=(lB p o n z e).1; omega,by have:=(lB p o n z e).2; omega⟩)
 have nD:=kD.1
 have D8:=(kD.2 (h.next+1) oM ⟨⟨oM,oM,oM,oM,oM⟩,oM⟩).trans F8
 have Jf:=Yy Jf @D8
 iterate 8 (first|refine Goes.Zh Yd ?_|refine Zo Hh (Zj Za c17) Yd ?_|apply gS)
 refine⟨_,_,(by have Jf:=Yy @D8 @x1l; exact Zr),rfl,⟨?_,fun m hm ho=>?_⟩,V',MD.keep ?_ (fun m hm=>?_),rv⟩
 ·first|omega|(simp only[H.Zd,H.Zc]<;>omega)
 ·refine Eq.trans ?_ ((kD.2 m oM ho).trans ((kF m oM).trans ((kE.2 m oM ho).trans ((kC m oM oM).trans ((kB m oM).trans (kA m hm)))))); exact Ym
 ·first|omega|(simp only[H.Zd,H.Zc]<;>omega)
 ·exact Ym
theorem Yds (f:Yw a b c e=true) (m0:md≠0) (A:AlcW n q a b c e cr md S Al blk cap mt nk) (M:HE n q a b c e cr md S T V h) (al:Al V m) (mc:m<cap) (hT:∀ z,mt z->z ∉ T) (bT:blk m ∉ T) (b32:blk m<4096) {x:List C} {P:Nat->Nat} (X:InoP x P) {i:Nat} (hi:i<110) {near:Nat} (nr:nk near) (nz:P (F9 i).1=0) {r1:Nat} {r2:Bool} {R:(Nat->Lq)->Prop}
  (dn:∀ h1 s V1,HE n q a b c e cr md S T V1 h1->Al V1 (m+1)->(∀ z,¬ mt z->z≠blk m->V1 z=V z)->(0<(F9 i).2.length->V1 (blk m)=zer0)->SlI h1 s (F9 i).2->(∀ p o n z,s=.slice p o n z->q+9<=p/\p<h1.next)->∃ h2,Zb 220 [.c (.ptr (n+13) 0),.c (.int .i64 (blk m:Nat)),.c s,.c (.bool true)] h1 (.tup [.c (.int .i64 (r1:Int)),.c (.bool r2),.c (.int .i64 0)]) h2/\Kp n q h1 h2/\∃ V',HE n q a b c e cr md S T V' h2/\R V') :
  ∃ h',Zb 146 [.c (.ptr (n+13) 0),.g x,.c (.int .i64 (i:Int)),.c (.int .i64 (near:Int))] h (.tup [.g (x.set (4+(F9 i).1) (.int .u32 (blk m:Nat))),.c (.int .i64 (r1:Int)),.c (.bool r2),.c (.int .i64 0)]) h'/\Kp n q h h'/\∃ V',HE n q a b c e cr md S T V' h'/\R V':=Ydu Hh f m0 A.toAlcV (fun _=>A.sS m mc) M al mc hT bT b32 X hi nr nz dn
end
theorem ty326:K.types.get 326=some ti326:=kR
theorem sz326:ti326.size=256:=by rfl
theorem fo326_0:Zw K 326 0=some (0,ti87):=kR
theorem bu326 (ps:List (Nat × W)):Yq K 326 (some ps)=gW (Yh K 326 ps ti326.zero.cells):=kR
theorem ze326:ti326.zero=(.g ((List.replicate 256 (.int .u8 0)))):=by rfl
theorem el454:J9 K 454=some ti73:=kR
attribute [go_sem] ty326 sz326 fo326_0 bu326 ze326 el454
theorem rs215:Tryz.f215.results.toList=[]:=rfl
theorem rs212:Tryz.f212.results.toList=[.tmp 4]:=rfl
theorem rs268:Tryz.f268.results.toList=[]:=rfl
theorem rs265:Tryz.f265.results.toList=[.tmp 4]:=rfl
theorem rs266:Tryz.f266.results.toList=[.tmp 2]:=rfl
theorem rs216:Tryz.f216.results.toList=[]:=rfl
theorem rs209:Tryz.f209.results.toList=[.tmp 2]:=rfl
attribute [go_sem] rs215 rs212 rs268 rs265 rs266 rs216 rs209
def Z4t:Kn1:=fun args h=>match args with
 | [.c (.ptr p 0),.c (.int .i64 a),.c (.int .i64 v)]=>(U5 a).bind fun a=>(U5 v).bind fun v=>(Li h p).bind fun x=>Y5 (decide (a+2<=256)&&decide (v<65536)) (some (.tup [],h.put p (.row 256 [pgL (Om (unN x) a v)] false)))
 | _=>none
def Zvd:Kn1:=fun args h=>match args with
 | [.c (.ptr p 0),.c (.int .i64 a),.c (.int .u32 v)]=>(U5 a).bind fun a=>(U5 v).bind fun v=>(Li h p).bind fun x=>Y5 (decide (a+4<=256)&&decide (v<4294967296)) (some (.tup [],h.put p (.row 256 [pgL (Jr (unN x) a v)] false)))
 | _=>none
def Z4r:Kn1:=fun args h=>match args with
 | [.c (.ptr p 0),.c (.int .i64 a)]=>(U5 a).bind fun a=>(Li h p).bind fun x=>Y5 (decide (a+2<=256)) (some (.w (.c (.int .i64 ((Oj (unN x) a:Nat):Int))),h))
 | _=>none
def Zvc:Kn1:=fun args h=>match args with
 | [.c (.ptr p 0),.c (.int .i64 a)]=>(U5 a).bind fun a=>(Li h p).bind fun x=>Y5 (decide (a+4<=256)) (some (.w (.c (.int .u32 ((Yj (unN x) a:Nat):Int))),h))
 | _=>none
def Zpg:Kn1:=fun args h=>match args with
 | [.c (.ptr p 0)]=>(Li h p).bind fun x=>Y5 (Lj (h.get 0)) (some (.w (.c (.int .u32 ((Qs (unN x):Nat):Int))),h))
 | _=>none
def Zve:Kn1:=fun args h=>match args with
 | [.c (.ptr p 0)]=>(Li h p).bind fun x=>Y5 (Lj (h.get 0)) (some (.tup [],h.put p (.row 256 [pgL (Jr (unN x) 252 (Qs (unN x)))] false)))
 | _=>none
def Zkn:Kn1:=fun args h=>match args with
 | [.c (.ptr p 0)]=>(Li h p).bind fun x=>Y5 (Lj (h.get 0)) (some (.w (.c (.bool (((Yj (unN x) 252:Nat):Int) == ((Qs (unN x):Nat):Int)))),h))
 | _=>none
def Zf2:Kn1:=fun args h=>match args with
 | [.c (.ptr p 0),.c (.int .i64 a),.c (.int .i64 b)]=>(U5 a).bind fun a=>(U5 b).bind fun b=>(Li h p).bind fun x=>Y5 (decide (a<=b)&&decide (b<=256)) (some (.w (.c (.bool (Bq (unN x) a (b - a)))),h))
 | _=>none
attribute [go_sem] Z4t Zvd Z4r Zvc Zpg Zve Zkn Zf2
theorem Yd6 {ns:Lq} {ro:Bool} (h:256<=ns.length/\ns.length<=256):reaches 0 256 (some (.row 256 [pgL ns] ro))=true:=by
 unfold reaches
 show (match read1 256 [pgL ns] 255 with
  | some _=>Nat.ble 1 256
  | none=>false)=true
 rw[Zrx oM]
 rfl
attribute [go_sem] Yd6
section
variable (Hh:Hearts K Tryz.prog)
include Hh
theorem Z4u {args:List W} {h h':Hq} {v:V} (e:Z4t args h=some (v,h')):Zb 215 args h v h':=by
 unfold Z4t at e
 split at e
 ·obtain⟨a,ha,e⟩:=Zk e
  obtain⟨v,hv,e⟩:=Zk e
  obtain⟨x,hx,e⟩:=Zk e
  obtain⟨ns,rfl,hl,hp⟩:=J8 hx
  obtain⟨b,e⟩:=Zv.1 e
  simp only[aQ,decide_eq_true_eq] at b
  obtain⟨b1,b2⟩:=b
  cases e
  rw[Yb ha,Yb hv,Gp,Zjp]
  refine fnG Hh Tryz.f215 ?_
  have Jf:=Ja @hp @hl @Nat.add_zero
  repeat (first|refine Zo Hh (EY Za (Zm4 Hh)) Za6 ?_)
  exact Zf
 ·cases e
theorem Zz6 {args:List W} {h h':Hq} {v:V} (e:Zvd args h=some (v,h')):Zb 268 args h v h':=by
 unfold Zvd at e
 split at e
 ·obtain⟨a,ha,e⟩:=Zk e
  obtain⟨v,hv,e⟩:=Zk e
  obtain⟨x,hx,e⟩:=Zk e
  obtain⟨ns,rfl,hl,hp⟩:=J8 hx
  obtain⟨b,e⟩:=Zv.1 e
  simp only[aQ,decide_eq_true_eq] at b
  obtain⟨b1,b2⟩:=b
  cases e
  rw[Yb ha,Yb hv,Gp,Xn]
  refine fnG Hh Tryz.f268 ?_
  have Jf:=Ja @hp @hl @Nat.add_zero
  repeat (first|refine Zo Hh (EY Za (Zf3 Hh)) Za6 ?_)
  exact Zf
 ·cases e
theorem Z4s {args:List W} {h h':Hq} {v:V} (e:Z4r args h=some (v,h')):Zb 212 args h v h':=by
 unfold Z4r at e
 split at e
 ·obtain⟨a,ha,e⟩:=Zk e
  obtain⟨x,hx,e⟩:=Zk e
  obtain⟨ns,rfl,hl,hp⟩:=J8 hx
  obtain⟨b,e⟩:=Zv.1 e
  simp only[decide_eq_true_eq] at b
  cases e
  have g2:=Zn7 ns a
  have g3:Oj ns (0+a)=Oj ns a:=by rw[Nat.zero_add]
  rw[Yb ha,Gp,Zah]
  obtain⟨g,hg⟩:=xzE (Oj ns a)
  rw[hg] at g2 ⊢
  refine fnG Hh Tryz.f212 ?_
  have Jf:=G6 @hp @hl @hg @Nat.add_zero @Nat.zero_add
  repeat (first|apply Z6|apply Yc|refine Zo Hh (EY Za (Zmx Hh)) Za6 ?_)
  exact Zf
 ·cases e
theorem Zz5 {args:List W} {h h':Hq} {v:V} (e:Zvc args h=some (v,h')):Zb 265 args h v h':=by
 unfold Zvc at e
 split at e
 ·obtain⟨a,ha,e⟩:=Zk e
  obtain⟨x,hx,e⟩:=Zk e
  obtain⟨ns,rfl,hl,hp⟩:=J8 hx
  obtain⟨b,e⟩:=Zv.1 e
  simp only[decide_eq_true_eq] at b
  cases e
  rw[Yb ha,Gp,Xc]
  refine fnG Hh Tryz.f265 ?_
  have Jf:=J6 @hp @hl @Nat.add_zero @Nat.zero_add
  repeat (first|apply Z6|apply Yc|refine Zo Hh (EY Za (Mo Hh)) Za6 ?_)
  exact Zf
 ·cases e
theorem Zko {args:List W} {h h':Hq} {v:V} (e:Zpg args h=some (v,h')):Zb 266 args h v h':=by
 unfold Zpg at e
 split at e
 ·rename_i p
  obtain⟨x,hx,e⟩:=Zk e
  obtain⟨ns,rfl,hl,hp⟩:=J8 hx
  obtain⟨b,e⟩:=Zv.1 e
  cases e
  rw[Gp,Zba]
  refine Zu.tidy ⟨Tryz.f266,Tryz.func266,kR,by decide⟩ fun tidy=>?_
  have hst:=Fq b
  have l0:=tidy _ _ hst
  have l1:=tidy _ _ hp
  obtain⟨v,h',c,rfl,hk⟩:∃ v h',Zb 266 [.c (.ptr p 0)] h v h'/\v=.w (.c (.int .u32 ((Qs ns:Nat):Int)))/\∀ m,m<h.next->h'.get m=h.get m:=by
   refine Yk Hh Tryz.f266 ?_
   repeat (first|apply Z6|apply Yc|((first|apply Goes.Zh|apply Goes.ops2 fits Hh (EY Za (Z5b Hh))); · simp (maxSteps:=9^6) +decide (disch:=first|exact dZ|fail) only [go_sem,Zn,Zi,simprocAttr,hp,hl,hst,Ol,Eb,bound,Lg,Nat.add_zero,read1,Ju,Rs,Uk,List.replicate_succ,List.replicate_zero]<;>rfl))
   exact⟨_,_,Zf,rfl,fun m hm=>by exact Ym⟩
  exact c.quiet rfl hk
 ·cases e
theorem Zz7 {args:List W} {h h':Hq} {v:V} (e:Zve args h=some (v,h')):Zb 216 args h v h':=by
 unfold Zve at e
 split at e
 ·rename_i p
  obtain⟨x,hx,e⟩:=Zk e
  obtain⟨ns,rfl,hl,hp⟩:=J8 hx
  obtain⟨b,e⟩:=Zv.1 e
  cases e
  have hst:=Fq b
  have cl:=Z1i ns
  rw[Gp,Xn,Zba]
  obtain⟨g,hg⟩:=xzE (Qs ns)
  rw[hg] at cl ⊢
  refine fnG Hh Tryz.f216 ?_
  have Jf:=J6 @hp @hl @hst @hg
  repeat (first|refine Zo Hh (EY (EY Za (Zko Hh)) (Zz6 Hh)) Zm ?_)
  exact Zf
 ·cases e
theorem Zsj {args:List W} {h h':Hq} {v:V} (e:Zkn args h=some (v,h')):Zb 209 args h v h':=by
 unfold Zkn at e
 split at e
 ·rename_i p
  obtain⟨x,hx,e⟩:=Zk e
  obtain⟨ns,rfl,hl,hp⟩:=J8 hx
  obtain⟨b,e⟩:=Zv.1 e
  cases e
  have hst:=Fq b
  rw[Gp,Zba,Xc]
  refine fnG Hh Tryz.f209 ?_
  have Jf:=Ja @hp @hl @hst
  repeat (first|apply Z6|apply Yc|refine Zo Hh (EY (EY Za (Zz5 Hh)) (Zko Hh)) Zm ?_)
  exact Zf
 ·cases e
theorem Zpf {args:List W} {h h':Hq} {v:V} (e:Zf2 args h=some (v,h')):Zb 210 args h v h':=by
 unfold Zf2 at e
 split at e
 ·obtain⟨a,ha,e⟩:=Zk e
  obtain⟨b,hb,e⟩:=Zk e
  obtain⟨x,hx,e⟩:=Zk e
  obtain⟨ns,rfl,hl,hp⟩:=J8 hx
  obtain⟨bb,e⟩:=Zv.1 e
  simp only[aQ,decide_eq_true_eq] at bb
  obtain⟨b1,b2⟩:=bb
  cases e
  rw[Yb ha,Yb hb,Gp,Zew]
  refine fnG Hh Tryz.f210 ?_
  have Jf:=G6 @hp @hl @Nat.add_zero @Nat.zero_add @Nat.mul_one
  repeat (first|apply Z6|apply Yc|refine Zo Hh (EY Za (Zby Hh)) Za6 ?_)
  rfl
 ·cases e
end
end
end Go.Proofs.YtmanipmhebgdbaaGreatDoor
