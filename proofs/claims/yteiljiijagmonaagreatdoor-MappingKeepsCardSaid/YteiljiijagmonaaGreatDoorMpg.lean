/- mapping: what it asks of a store; pointer; Find, over any store whose handle is open. -/
import Derived.Test.YteiljiijagmonaaGreatDoorMpo
import Derived.Test.YteiljiijagmonaaGreatDoorHds
set_option maxRecDepth 100000
set_option maxHeartbeats 4000000
set_option linter.unusedSimpArgs false
set_option linter.unusedVariables false
set_option linter.unusedSectionVars false
namespace Go.Proofs.YteiljiijagmonaaGreatDoor
open Go.Ev
noncomputable section
theorem ty35:K.types.get 35=some ti35:=kR
theorem sz35:ti35.size=11:=by rfl
theorem ag35:ti35.agg=true:=by rfl
theorem de35:ti35.desc=(.array 11 34):=by rfl
theorem ze35:ti35.zero=(.g ((List.replicate 11 (.int .u32 0)))):=by rfl
theorem by35:ti35.bytes=44:=by rfl
theorem eq35 (a b:List C):eqT K 20 35 (.g a) (.g b)=(bif true&&Nat.beq a.length 11&&Nat.beq b.length 11 then Y4 a b else none):=kR
theorem ty37:K.types.get 37=some ti37:=kR
theorem sz37:ti37.size=16:=by rfl
theorem ag37:ti37.agg=true:=by rfl
theorem fo37_0:Zm K 37 0=some (0,ti5):=kR
theorem fo37_1:Zm K 37 1=some (1,ti3):=kR
theorem fo37_2:Zm K 37 2=some (2,ti34):=kR
theorem fo37_3:Zm K 37 3=some (3,ti3):=kR
theorem fo37_4:Zm K 37 4=some (4,ti35):=kR
theorem fo37_5:Zm K 37 5=some (15,ti34):=kR
theorem bu37 (ps:List (Nat × W)):Yg K 37 (some ps)=gW (Z8 K 37 ps ti37.zero.cells):=kR
theorem ze37:ti37.zero=(.g ([.int .u8 0,.int .i64 0,.int .u32 0,.int .i64 0,.int .u32 0,.int .u32 0,.int .u32 0,.int .u32 0,.int .u32 0,.int .u32 0,.int .u32 0,.int .u32 0,.int .u32 0,.int .u32 0,.int .u32 0,.int .u32 0])):=by rfl
theorem by37:ti37.bytes=80:=by rfl
attribute [go_sem] ty35 sz35 ag35 de35 ze35 by35 eq35 ty37 sz37 ag37 fo37_0 fo37_1 fo37_2 fo37_3 fo37_4 fo37_5 bu37 ze37 by37
noncomputable def q7 (p:Lq):Code:=piece p (Ug Tryz.f7)
theorem rs56:Tryz.f56.results.toList=[.tmp 2]:=rfl
theorem rs17:Tryz.f17.results.toList=[.tmp 2]:=rfl
theorem rs29:Tryz.f29.results.toList=[.tmp 2]:=rfl
theorem rs20:Tryz.f20.results.toList=[.tmp 4]:=rfl
theorem rs7:Tryz.f7.results.toList=[.tmp 6,.tmp 7]:=rfl
attribute [go_sem] rs56 rs17 rs29 rs20 rs7
def Zte:Kn1:=fun args h=>match args with
 | [.c (.ptr s 0)]=>(Da h s).bind fun S=>(Mj h S.gd).bind fun G=>some (.w (.c (.int .u8 G.md)),h)
 | _=>none
def Zsz:Kn1:=fun args h=>match args with
 | [.c (.ptr s 0)]=>(Da h s).bind fun S=>(Mj h S.gd).bind fun G=>some (.w (.c (.bool (G.md != 0))),h)
 | _=>none
def Zs0:Kn1:=fun args h=>match args with
 | [.c (.ptr s 0)]=>(Da h s).bind fun S=>(Mj h S.gd).bind fun _=>(Uf h S.tx).bind fun X=>Yt X.op (some (.w (.c (.int .i64 0)),h))
 | _=>none
attribute [go_sem] Zte Zsz Zs0
def Z3l (V:Nat->Lq) (b w:Nat):Nat:=if b=0 then 0 else Yq (V b) (4 * w)
def Qi (V:Nat->Lq) (b:Nat) (ws:Lq):Nat:=ws.foldl (Z3l V) b
theorem Zki (V:Nat->Lq):∀ ws,Qi V 0 ws=0
 | []=>rfl
 | w :: ws=>by
  show Qi V (Z3l V 0 w) ws=0
  rw[show Z3l V 0 w=0 from if_pos rfl]
  exact Zki V ws
theorem Zv6 (V:Nat->Lq) (b:Nat) (ws:Lq) (w:Nat):Qi V b (ws++[w])=Z3l V (Qi V b ws) w:=by
 unfold Qi
 rw[List.foldl_append]
 rfl
def Zx1 (a b c e:Nat) (V:Nat->Lq) (b0:Nat) (ws:Lq):Prop:=∀ j,j<ws.length->Qi V b0 (ws.take j)≠0->Uu a b c e ((Qi V b0 (ws.take j):Nat):Int)=true/\Qi V b0 (ws.take j)<2+e+a * b
section
variable (Hh:Hearts K Tryz.prog)
include Hh
theorem Zxs {args:List W} {h h':Hq} {v:V} (e:Zte args h=some (v,h')):Zi 56 args h v h':=by
 unfold Zte at e
 split at e
 ·rename_i s
  obtain⟨S,hs,e⟩:=Zj e
  have hs:=Y8 hs
  obtain⟨G,hg,e⟩:=Zj e
  obtain⟨hg,fb⟩:=Uz hg
  cases e
  refine fnG Hh Tryz.f56 ?_
  repeat (first|apply Zu|apply Ye|apply Yc|((first|apply Goes.Zl|apply Goes.ops2 fits Hh (EY Za (Oa Hh))); · simp (maxSteps:=9^6) +decide (disch:=first|exact dZ|fail) only [go_sem,Zk,Zh,simprocAttr,hs,hg,gdL,read1]<;>rfl))
  exact Zf
 ·cases e
theorem Vk {args:List W} {h h':Hq} {v:V} (e:Zsz args h=some (v,h')):Zi 17 args h v h':=by
 unfold Zsz at e
 split at e
 ·rename_i s
  obtain⟨S,hs,e⟩:=Zj e
  have hs:=Y8 hs
  obtain⟨G,hg,e⟩:=Zj e
  obtain⟨hg,fb⟩:=Uz hg
  cases e
  refine fnG Hh Tryz.f17 ?_
  repeat (first|apply Zu|apply Yc|((first|apply Goes.Zl|apply Goes.ops2 fits Hh (EY Za (Zxs Hh))); · simp (maxSteps:=9^6) +decide (disch:=first|exact dZ|fail) only [go_sem,Zk,Zh,simprocAttr,hs,hg,gdL,fb]<;>rfl))
  exact Zf
 ·cases e
theorem Zeu {args:List W} {h h':Hq} {v:V} (e:Zs0 args h=some (v,h')):Zi 29 args h v h':=by
 unfold Zs0 at e
 split at e
 ·rename_i s
  obtain⟨S,hs,e⟩:=Zj e
  have hs:=Y8 hs
  obtain⟨G,hg,e⟩:=Zj e
  obtain⟨hg,fb⟩:=Uz hg
  obtain⟨X,ht,e⟩:=Zj e
  have ht:=Yk ht
  obtain⟨bo,e⟩:=Zq.1 e
  cases e
  refine fnG Hh Tryz.f29 ?_
  repeat (first|apply Zu|apply Ye|apply Yc|((first|apply Goes.Zl|apply Goes.ops2 fits Hh (EY (EY Za (Zlj Hh)) (Zqp Hh))); · simp (maxSteps:=9^6) +decide (disch:=first|exact dZ|fail) only [go_sem,Zk,Zh,simprocAttr,hs,ht,hg,gdL,fb,bo]<;>rfl))
  exact Zf
 ·cases e
theorem Zzu {h:Hq} {p w:Nat} {ns:Lq} (nl:ns.length=256) (hp:h.get p=some (.row 256 [pgL ns] false)) (hw:w<64):Zi 20 [.c (.ptr p 0),.c (.int .i64 (w:Int))] h (.w (.c (.int .i64 ((Yq ns (4 * w):Nat):Int)))) h:=by
 have e1:(4:Int) * (w:Int)=((4 * w:Nat):Int):=rfl
 have g4:=Zuh ns (4 * w)
 have xl:(pgL ns).length=256:=by rw[Oz,nl]
 have xb:=Wy ns
 have u4:Yq (unN (pgL ns)) (4 * w)=Yq ns (4 * w):=by rw[Gh,Tm]
 have r5:read1 256 [pgL ns] 255=some (.int .u8 ((atN ns 255:Nat):Int)):=Zr7 ⟨oM,oM⟩
 have rd:reaches 0 256 (some (.row 256 [pgL ns] false))=true:=by
  show (match read1 256 [pgL ns] 255 with|some _=>Nat.ble 1 256|none=>false)=true
  rw[r5]
  rfl
 obtain⟨Y,hY⟩:=xzE (pgL ns)
 obtain⟨z,hz⟩:=xzE (Yq ns (4 * w))
 obtain⟨u,hu⟩:=xzE (4 * w)
 have ul:u+4<=256:=oM
 rw[hY] at hp xl xb u4 rd
 rw[hz] at u4 g4 ⊢
 rw[hu] at u4 e1
 refine fnG Hh Tryz.f20 ?_
 have Jf:=El @e1 @hp @xl @xb @u4 @rd @Nat.zero_add
 repeat (first|apply Zu|apply Yc|refine Zr Hh (EY Za (Zlf Hh)) Zaa ?_)
 exact Zf
variable {n q a b c e:Nat} {cr:Cr} {md:Int} {S T:Lq} {V:Nat->Lq}
theorem Zy7 (f:Y1 a b c e=true) {b0:Nat} {ws:Lq} {s:C} (w0:Zx1 a b c e V b0 ws) (w64:∀ w∈ws,w<64) (wl:ws.length<=8):∀ (k j:Nat) (ts:Zw) (h:Hq),j+k=ws.length->HE n q a b c e cr md S T V h->SlI h s ws->(∀ p o n z,s=.slice p o n z->q+9<=p/\p<h.next)->Ze ts 0=.w (.c (.ptr (n+13) 0))->Ze ts 33=.w (.c s)->Ze ts 34=.w (.c (.int .i64 (ws.length:Nat)))->Ze ts 35=.w (.c (.int .i64 (j:Nat)))->Ze ts 11=.w (.c (.int .i64 (Qi V b0 (ws.take j):Nat))) ->
  Z7 54 none (q7 [1,1,1,1,1,0,1,2]) [] ts h fun x ds' ts' h'=>x=.exit 0/\ds'=[]/\HE n q a b c e cr md S T V h'/\Kr n q h h'/\Ze ts' 11=.w (.c (.int .i64 (Qi V b0 ws:Nat))):=by
 obtain⟨g1,g2,g3,g4,g5,g6,g7,g8,g9,g10,g11⟩:=Ya f
 intro k
 induction k with
 | zero =>
  intro j ts h hj M sl sb t0 t33 t34 t35 t11
  obtain rfl:j=ws.length:=oM
  rw[List.take_length] at t11
  have dl:decide ((ws.length:Int)<(ws.length:Int))=false:=decide_eq_false oM
  have Jf:=Ju @t34 @t35 @dl
  iterate 6 (first|refine Goes.Zl Zn ?_|refine Zr Hh Za Zn ?_|apply gS)
  refine⟨rfl,rfl,M,⟨Nat.le_refl _,fun _ _ _=>rfl⟩,?_⟩
  simp (maxSteps:=9^6) +decide (disch:=first|exact dZ|fail) only [go_sem,Zk,Zh,simprocAttr,t11]
 | succ k ih =>
  intro j ts h hj M sl sb t0 t33 t34 t35 t11
  have jl:j<ws.length:=oM
  obtain⟨w,hw⟩:∃ w,ws[j]? = some w:=⟨_,List.getElem?_eq_getElem jl⟩
  have w6:=w64 w (List.mem_of_getElem? hw)
  have tk:ws.take (j+1)=ws.take j++[w]:=by rw[List.take_add_one,hw]; rfl
  have sn:=Zv6 V b0 (ws.take j) w
  rw[<-tk] at sn
  have rd:=rdI hw
  have dl:decide ((j:Int)<(ws.length:Int))=true:=decide_eq_true oM
  have wo:=w0 j jl
  have sl0:=sl
  obtain⟨e0,_⟩|⟨p,_,rfl,hp⟩:=sl
  ·rw[e0] at jl; simp at jl
  have pb:=sb _ _ _ _ rfl
  have lf:=Xf
  have t33':=t33
  have t34':=t34
  obtain⟨nq,nx,n0⟩:=M.nx
  obtain⟨N,hN⟩:=xzE (ws.length)
  obtain⟨R,hR⟩:=xzE (rwI ws)
  rw[hN] at t33' t34' dl jl
  rw[hR] at hp rd
  by_cases b0':Qi V b0 (ws.take j)=0
  ·rw[b0'] at t11
   have all0:Qi V b0 ws=0:=by
    have:ws=ws.take j++ws.drop j:=(List.take_append_drop j ws).symm
    rw[this]
    unfold Qi at b0' ⊢
    rw[List.foldl_append,b0']
    exact Zki V _
   have ez:(((0:Nat):Int) == 0)=true:=rfl
   rw[all0]
   have Jf:=Yw @t33' @t34' @t35 @t11 @dl @lf @hp @rd @ez
   iterate 15 (first|apply Zu|apply Ye|apply Zmg|apply Gr|apply J8|refine Goes.Zl Zn ?_|refine Zr Hh Za Zn ?_)
   show _/\_/\_
   refine⟨rfl,rfl,M,⟨Nat.le_refl _,fun _ _ _=>rfl⟩,?_⟩
   exact Zn
  ·obtain⟨ob,bl⟩:=wo b0'
   have e1:Qi V b0 (ws.take (j+1))=Yq (V (Qi V b0 (ws.take j))) (4 * w):=by rw[sn]; exact if_neg b0'
   obtain⟨B,hB⟩:=xzE (Qi V b0 (ws.take j))
   rw[hB] at t11 ob bl e1 b0'
   have ez:((B:Int) == 0)=false:=U7 oM
   obtain⟨hG,eG,MG,nG,rG⟩:=M.get f ob bl
   have c11:=Eu Hh eG
   have vl:=M.len ob bl
   have Yl:(pgL (V B)).length=256:=by rw[Oz,vl]
   have cP:=fun {h:Hq} {p:Nat} (hp:h.get p=some (.row 256 [pgL (V B)] false))=>Zzu Hh vl hp w6
   obtain⟨z,hz⟩:=xzE (Yq (V B) (4 * w))
   obtain⟨Y,hY⟩:=xzE (pgL (V B))
   rw[hY] at c11 Yl
   simp only[hz,hY] at cP
   rw[hz] at e1
   have Jf:=Ju @t0 @t33' (Yw @t34' @t35 @t11 @dl @lf @hp @rd @ez @Yl)
   iterate 16 (first|refine Goes.Zl Z0 ?_|refine Zr Hh Za Z0 ?_|apply gS)
   iterate 6 (first|refine Goes.Zl Z0 ?_|refine Zr Hh (Zp Za c11) Z0 ?_|apply gS)
   refine Ow fun hA eA=>?_
   have nA:hA.next=h.next+1:=by rw[eA]; simp only[H.Zb,H.Zc,nG]
   have kA:∀ m,m<h.next->m≠n+6->hA.get m=h.get m:=fun m hm hne=>by rw[eA]; refine Eq.trans ?_ (rG m hm hne); exact Jg
   have bA:hA.get h.next=some (.row 256 [Y] false):=by rw[eA,<-nG]; exact Z0
   have MA:=MG.keep (h2:=hA) oM (fun m hm=>by rw[eA]; exact Jg)
   clear eA
   have c14:=cP bA
   rw[<-nG] at c14
   iterate 2 (refine Zr Hh (Zp Za c14) Z0 ?_)
   show Z7 54 none (q7 [1,1,1,1,1,0,1,2]) _ _ _ _
   refine (ih (j+1) _ hA oM MA (sl0.keep fun p' o n' z e=>by cases e; exact kA p oM oM) (fun p' o n' z e=>by cases e; exact⟨pb.1,oM⟩) ?_ ?_ ?_ ?_ ?_).mono ?_
   ·have Jf:=@t0; exact Zn
   ·have Jf:=@t33; exact Zn
   ·have Jf:=@t34; exact Zn
   ·exact Zf
   ·rw[e1]; exact Zf
   rintro x' ds' ts' h' ⟨w1,w2,w3,w4,w5⟩
   exact⟨w1,w2,w3,⟨by have:=w4.1; omega,fun m hm hne=>(w4.2 m oM hne).trans (kA m hm hne)⟩,w5⟩
end
structure InoP (x:List C) (P:Nat->Nat):Prop where
 xl:x.length=16
 pt:∀ i,i<11->x[4+i]? = some (.int .u32 (P i:Nat))
 pb:∀ i,i<11->P i<4294967296
theorem InoP.rd {x:List C} {P:Nat->Nat} (X:InoP x P) {i:Nat} (hi:i<11):read1 16 [x] (4+i)=some (.int .u32 (P i:Nat)):=by
 have:=Mr (L:=[x]) (sz:=16) (i:=0) (j:=4+i) oM rfl
 rw[Nat.zero_mul,Nat.zero_add] at this
 rw[this]
 exact X.pt i hi
def Zbc (V:Nat->Lq) (P:Nat->Nat) (i:Nat):Nat:=Qi V (P (Uw i).1) (Uw i).2
theorem Znf (i:Nat):(Uw i).2.length<=8:=by
 unfold Uw
 split
 ·exact (by omega:0<=8)
 ·split
  ·exact (by omega:1<=8)
  ·exact (by omega:2<=8)
section
variable (Hh:Hearts K Tryz.prog)
include Hh
variable {n q a b c e:Nat} {cr:Cr} {md:Int} {S T:Lq} {V:Nat->Lq} {h:Hq}
theorem Zuq (f:Y1 a b c e=true) (m0:md≠0) (M:HE n q a b c e cr md S T V h) {x:List C} {P:Nat->Nat} (X:InoP x P) {i:Nat} (hi:i<110) (w0:Zx1 a b c e V (P (Uw i).1) (Uw i).2) :
  ∃ h',Zi 7 [.c (.ptr (n+13) 0),.g x,.c (.int .i64 (i:Int))] h (.tup [.c (.int .i64 (Zbc V P i:Nat)),.c (.int .i64 0)]) h'/\HE n q a b c e cr md S T V h'/\Kr n q h h':=by
 obtain⟨nq,nx,n0⟩:=M.nx
 obtain⟨st,⟨kn,hs⟩,⟨dk,gl⟩,ht⟩:=M.cells
 unfold gdL gdD at gl
 have dm:(md != 0)=true:=Zhp m0
 obtain⟨p11,w6⟩:=Zsg hi
 have xl:=X.xl
 have rx:=X.rd p11
 have pb:=X.pb _ p11
 have wl:=Znf i
 unfold Zbc
 obtain⟨ws,hws⟩:=xzE ((Uw i).2)
 have hO:=fun {h:Hq} (h0:0<h.next)=>Z7n Hh hi (h:=h) h0
 obtain⟨pk,hpk⟩:=xzE ((Uw i).1)
 simp only[hws,hpk] at hO w0 w6 p11 rx pb wl ⊢
 obtain⟨b0,hb0⟩:=xzE (P pk)
 rw[hb0] at rx pb w0 ⊢
 have lp:=fun s=>Zy7 Hh (n:=n) (q:=q) (cr:=cr) (md:=md) (S:=S) (T:=T) (s:=s) f w0 w6 wl ws.length 0
 refine Fz ?_
 refine Y0 Hh Tryz.f7 ?_
 have Jf:=Ej @f @hs @gl @dm @xl
 iterate 8 (first|refine Goes.Zl Ji ?_|refine Zr Hh (EY Za (Vk Hh)) Ji ?_|apply gS)
 refine Ow fun hA eA=>?_
 have nA:hA.next=h.next+1:=nxQ eA
 have kA:∀ m,m<h.next->hA.get m=h.get m:=kQ eA
 have bA:hA.get h.next=some (.row 16 [x] false):=by rw[eA]; exact Z0
 clear eA
 obtain⟨hB,s,c3,nB,kB,sB,lB⟩:=hO (h:=hA) oM
 have bB:=(kB h.next oM).trans bA
 have MB:=M.keep (h2:=hB) oM (fun m hm=>(kB m oM).trans (kA m oM))
 obtain⟨lf,ln⟩:=Zrs sB
 have Jf:=El Jf @bB @rx @pb @p11 @lf @ln
 iterate 12 (first|refine Goes.Zl Ji ?_|refine Zr Hh (Zp Za c3) Ji ?_|apply gS)
 refine (lp s _ hB oM MB sB (fun p o n z e=>⟨by have:=(lB p o n z e).1; omega,(lB p o n z e).2⟩) ?_ ?_ ?_ ?_ ?_).mono ?_
 ·exact Zf
 ·exact Zf
 ·exact Zf
 ·exact Zf
 ·exact Zf
 rintro x1 ds1 ts1 h1 ⟨rfl,rfl,M1,k1,t11⟩
 have Jf:=@t11
 iterate 3 (first|refine Zr Hh Za Zn ?_|apply gS)
 exact⟨_,_,Zn,rfl,M1,⟨by have:=k1.1; omega,fun m hm hne=>(k1.2 m oM hne).trans ((kB m oM).trans (kA m hm))⟩⟩
end
end
end Go.Proofs.YteiljiijagmonaaGreatDoor
