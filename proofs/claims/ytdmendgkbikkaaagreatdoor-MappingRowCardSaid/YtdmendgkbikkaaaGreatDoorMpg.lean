/- mapping: what it asks of a store; pointer; Find, over any store whose handle is open. -/
import Derived.Test.YtdmendgkbikkaaaGreatDoorBeg3
import Derived.Test.YtdmendgkbikkaaaGreatDoorHdd
import Derived.Test.YtdmendgkbikkaaaGreatDoorHba
import Derived.Test.YtdmendgkbikkaaaGreatDoorEvC
set_option linter.unusedSimpArgs false
set_option linter.unusedVariables false
set_option linter.unusedSectionVars false
set_option maxRecDepth 100000
set_option maxHeartbeats 4000000
namespace Go.Proofs.YtdmendgkbikkaaaGreatDoor
open Go.Ev
theorem ty35:K.types.get 35=some ti35:=by kernel_rfl
theorem sz35:ti35.size=11:=by rfl
theorem ag35:ti35.agg=true:=by rfl
theorem de35:ti35.desc=(.array 11 34):=by rfl
theorem ze35:ti35.zero=(.g ((List.replicate 11 (.int .u32 0)))):=by rfl
theorem by35:ti35.bytes=44:=by rfl
theorem eq35 (a b:List C):eqT K 20 35 (.g a) (.g b)=(bif true&&Nat.beq a.length 11&&Nat.beq b.length 11 then Yy a b else none):=by kernel_rfl
theorem ty37:K.types.get 37=some ti37:=by kernel_rfl
theorem sz37:ti37.size=16:=by rfl
theorem ag37:ti37.agg=true:=by rfl
theorem fo37_0:Zk K 37 0=some (0,ti5):=by kernel_rfl
theorem fo37_1:Zk K 37 1=some (1,ti3):=by kernel_rfl
theorem fo37_2:Zk K 37 2=some (2,ti34):=by kernel_rfl
theorem fo37_3:Zk K 37 3=some (3,ti3):=by kernel_rfl
theorem fo37_4:Zk K 37 4=some (4,ti35):=by kernel_rfl
theorem fo37_5:Zk K 37 5=some (15,ti34):=by kernel_rfl
theorem bu37 (ps:List (Nat × W)):Yd K 37 (some ps)=gW (Z4 K 37 ps ti37.zero.cells):=by kernel_rfl
theorem ze37:ti37.zero=(.g ([.int .u8 0,.int .i64 0,.int .u32 0,.int .i64 0,.int .u32 0,.int .u32 0,.int .u32 0,.int .u32 0,.int .u32 0,.int .u32 0,.int .u32 0,.int .u32 0,.int .u32 0,.int .u32 0,.int .u32 0,.int .u32 0])):=by rfl
theorem by37:ti37.bytes=80:=by rfl
attribute [go_sem] ty35 sz35 ag35 de35 ze35 by35 eq35 ty37 sz37 ag37 fo37_0 fo37_1 fo37_2 fo37_3 fo37_4 fo37_5 bu37 ze37 by37
noncomputable def q11 (p:List Nat):Code:=piece p (Ut Tryz.f11)
theorem rs58:Tryz.f58.results.toList=[.tmp 2]:=rfl
theorem rs19:Tryz.f19.results.toList=[.tmp 2]:=rfl
theorem rs33:Tryz.f33.results.toList=[.tmp 2]:=rfl
theorem rs24:Tryz.f24.results.toList=[.tmp 4]:=rfl
theorem rs11:Tryz.f11.results.toList=[.tmp 6,.tmp 7]:=rfl
attribute [go_sem] rs58 rs19 rs33 rs24 rs11
noncomputable def Zp2:Kn1:=fun args h=>match args with
 | [.c (.ptr s 0)]=>(Gi h s).bind fun S=>(Ea h S.gd).bind fun G=>some (.w (.c (.int .u8 G.md)),h)
 | _=>none
noncomputable def Zpp:Kn1:=fun args h=>match args with
 | [.c (.ptr s 0)]=>(Gi h s).bind fun S=>(Ea h S.gd).bind fun G=>some (.w (.c (.bool (G.md != 0))),h)
 | _=>none
noncomputable def Zpq:Kn1:=fun args h=>match args with
 | [.c (.ptr s 0)]=>(Gi h s).bind fun S=>(Ea h S.gd).bind fun _=>(Uh h S.tx).bind fun X=>Yp X.op (some (.w (.c (.int .i64 0)),h))
 | _=>none
attribute [go_sem] Zp2 Zpp Zpq
def Zz1 (V:Nat→List Nat) (b w:Nat):Nat:=if b=0 then 0 else Y5 (V b) (4 * w)
def Vn (V:Nat→List Nat) (b:Nat) (ws:List Nat):Nat:=ws.foldl (Zz1 V) b
theorem Zho (V:Nat→List Nat):∀ ws,Vn V 0 ws=0
 | []=>rfl
 | w :: ws=>by
  show Vn V (Zz1 V 0 w) ws=0
  rw[show Zz1 V 0 w=0 from if_pos rfl]
  exact Zho V ws
theorem Zsq (V:Nat→List Nat) (b:Nat) (ws:List Nat) (w:Nat):Vn V b (ws++[w])=Zz1 V (Vn V b ws) w:=by
 unfold Vn
 rw[List.foldl_append]
 rfl
def Zuf (a b c e:Nat) (V:Nat→List Nat) (b0:Nat) (ws:List Nat):Prop:=∀ j,j<ws.length→Vn V b0 (ws.take j)≠0→Og a b c e ((Vn V b0 (ws.take j):Nat):Int)=true∧Vn V b0 (ws.take j)<2+e+a * b
section
variable (Hh:Hearts K Tryz.prog)
include Hh
theorem Zt8 {args:List W} {h h':Go.Ev.H} {v:V} (e:Zp2 args h=some (v,h')):Zg 58 args h v h':=by
 unfold Zp2 at e
 split at e
 ·rename_i s
  obtain⟨S,hs,e⟩:=Zh e
  have hs:=Ja hs
  obtain⟨G,hg,e⟩:=Zh e
  obtain⟨hg,fb⟩:=Un hg
  cases e
  refine fnG Hh Tryz.f58 ?_
  repeat (first|apply Zp|apply Z6|apply Yb|((first|apply Goes.Zn|apply Goes.ops2 fits Hh (EY Za (U3 Hh))); · simp (maxSteps:=9^6) +decide (disch:=first|omega|(simp only[lens]<;>omega)|decide) only [go_sem,Zm,Ze,simprocAttr,hs,hg,gdL,read1]<;>rfl))
  exact Zj
 ·cases e
theorem X8 {args:List W} {h h':Go.Ev.H} {v:V} (e:Zpp args h=some (v,h')):Zg 19 args h v h':=by
 unfold Zpp at e
 split at e
 ·rename_i s
  obtain⟨S,hs,e⟩:=Zh e
  have hs:=Ja hs
  obtain⟨G,hg,e⟩:=Zh e
  obtain⟨hg,fb⟩:=Un hg
  cases e
  refine fnG Hh Tryz.f19 ?_
  repeat (first|apply Zp|apply Yb|((first|apply Goes.Zn|apply Goes.ops2 fits Hh (EY Za (Zt8 Hh))); · simp (maxSteps:=9^6) +decide (disch:=first|omega|(simp only[lens]<;>omega)|decide) only [go_sem,Zm,Ze,simprocAttr,hs,hg,gdL,fb]<;>rfl))
  exact Zj
 ·cases e
theorem Zik {args:List W} {h h':Go.Ev.H} {v:V} (e:Zpq args h=some (v,h')):Zg 33 args h v h':=by
 unfold Zpq at e
 split at e
 ·rename_i s
  obtain⟨S,hs,e⟩:=Zh e
  have hs:=Ja hs
  obtain⟨G,hg,e⟩:=Zh e
  obtain⟨hg,fb⟩:=Un hg
  obtain⟨X,ht,e⟩:=Zh e
  have ht:=Ym ht
  obtain⟨bo,e⟩:=Zr.1 e
  cases e
  refine fnG Hh Tryz.f33 ?_
  repeat (first|apply Zp|apply Z6|apply Yb|((first|apply Goes.Zn|apply Goes.ops2 fits Hh (EY (EY Za (Zin Hh)) (Zne Hh))); · simp (maxSteps:=9^6) +decide (disch:=first|omega|(simp only[lens]<;>omega)|decide) only [go_sem,Zm,Ze,simprocAttr,hs,ht,hg,gdL,fb,bo]<;>rfl))
  exact Zj
 ·cases e
theorem Z0k {h:Go.Ev.H} {p w:Nat} {ns:List Nat} (nl:ns.length=256) (hp:h.get p=some (.row 256 [pgL ns] false)) (hw:w<64):Zg 24 [.c (.ptr p 0),.c (.int .i64 (w:Int))] h (.w (.c (.int .i64 ((Y5 ns (4 * w):Nat):Int)))) h:=by
 have e1:(4:Int) * (w:Int)=((4 * w:Nat):Int):=rfl
 have g4:=Zq4 ns (4 * w)
 have xl:(pgL ns).length=256:=by rw[Da,nl]
 have xb:=Zbq ns
 have u4:Y5 (unN (pgL ns)) (4 * w)=Y5 ns (4 * w):=by rw[Ga,Rc]
 have r5:read1 256 [pgL ns] 255=some (.int .u8 ((atN ns 255:Nat):Int)):=Zw4 ⟨by omega,by omega⟩
 have rd:reaches 0 256 (some (.row 256 [pgL ns] false))=true:=by
  show (match read1 256 [pgL ns] 255 with|some _=>Nat.ble 1 256|none=>false)=true
  rw[r5]
  rfl
 obtain⟨Y,hY⟩:∃ Y,pgL ns=Y:=⟨_,rfl⟩
 obtain⟨z,hz⟩:∃ z,Y5 ns (4 * w)=z:=⟨_,rfl⟩
 obtain⟨u,hu⟩:∃ u,4 * w=u:=⟨_,rfl⟩
 have ul:u+4≤256:=by omega
 rw[hY] at hp xl xb u4 rd
 rw[hz] at u4 g4 ⊢
 rw[hu] at u4 e1
 refine fnG Hh Tryz.f24 ?_
 have Jf:=Qv @e1 @hp @xl @xb @u4 @rd @Nat.zero_add
 repeat (first|apply Zp|apply Yb|refine Zy Hh (EY Za (Zig Hh)) Xg ?_)
 exact Zj
variable {n q a b c e:Nat} {cr:Cr} {md:Int} {S T:List Nat} {V:Nat→List Nat}
theorem Zvs (f:Y2 a b c e=true) {b0:Nat} {ws:List Nat} {s:C} (w0:Zuf a b c e V b0 ws) (w64:∀ w∈ws,w<64) (wl:ws.length≤8):∀ (k j:Nat) (ts:Zw) (h:Go.Ev.H),j+k=ws.length→HE n q a b c e cr md S T V h→SlI h s ws→(∀ p o n z,s=.slice p o n z→q+9≤p∧p<h.next)→Zi ts 0=.w (.c (.ptr (n+13) 0))→Zi ts 33=.w (.c s)→Zi ts 34=.w (.c (.int .i64 (ws.length:Nat)))→Zi ts 35=.w (.c (.int .i64 (j:Nat)))→Zi ts 11=.w (.c (.int .i64 (Vn V b0 (ws.take j):Nat))) →
  Ya 54 none (q11 [1,1,1,1,1,0,1,2]) [] ts h fun x ds' ts' h'=>x=.exit 0∧ds'=[]∧HE n q a b c e cr md S T V h'∧Kr n q h h'∧Zi ts' 11=.w (.c (.int .i64 (Vn V b0 ws:Nat))):=by
 obtain⟨g1,g2,g3,g4,g5,g6,g7,g8,g9,g10,g11⟩:=Yh f
 intro k
 induction k with
 | zero =>
  intro j ts h hj M sl sb t0 t33 t34 t35 t11
  obtain rfl:j=ws.length:=by omega
  rw[List.take_length] at t11
  have dl:decide ((ws.length:Int)<(ws.length:Int))=false:=decide_eq_false (by omega)
  have Jf:=Uc @t34 @t35 @dl
  iterate 6 (first|apply Zp|apply Oe|apply Yt|refine Goes.Zn Zq ?_|refine Zy Hh Za Zq ?_)
  refine⟨rfl,rfl,M,⟨Nat.le_refl _,fun _ _ _=>rfl⟩,?_⟩
  simp (maxSteps:=9^6) +decide (disch:=first|omega|(simp only[lens]<;>omega)|decide) only [go_sem,Zm,Ze,simprocAttr,t11]
 | succ k ih =>
  intro j ts h hj M sl sb t0 t33 t34 t35 t11
  have jl:j<ws.length:=by omega
  obtain⟨w,hw⟩:∃ w,ws[j]? = some w:=⟨_,List.getElem?_eq_getElem jl⟩
  have w6:=w64 w (List.mem_of_getElem? hw)
  have tk:ws.take (j+1)=ws.take j++[w]:=by rw[List.take_add_one,hw]; rfl
  have sn:=Zsq V b0 (ws.take j) w
  rw[←tk] at sn
  have rd:=rdI hw
  have dl:decide ((j:Int)<(ws.length:Int))=true:=decide_eq_true (by omega)
  have wo:=w0 j jl
  have sl0:=sl
  obtain⟨e0,_⟩|⟨p,_,rfl,hp⟩:=sl
  ·rw[e0] at jl; simp at jl
  have pb:=sb _ _ _ _ rfl
  have lf:=Vv
  have t33':=t33
  have t34':=t34
  obtain⟨nq,nx,n0⟩:=M.nx
  obtain⟨N,hN⟩:∃ N,ws.length=N:=⟨_,rfl⟩
  obtain⟨R,hR⟩:∃ R,rwI ws=R:=⟨_,rfl⟩
  rw[hN] at t33' t34' dl jl
  rw[hR] at hp rd
  by_cases b0':Vn V b0 (ws.take j)=0
  ·rw[b0'] at t11
   have all0:Vn V b0 ws=0:=by
    have:ws=ws.take j++ws.drop j:=(List.take_append_drop j ws).symm
    rw[this]
    unfold Vn at b0' ⊢
    rw[List.foldl_append,b0']
    exact Zho V _
   have ez:(((0:Nat):Int) == 0)=true:=rfl
   rw[all0]
   have Jf:=Ur @t33' @t34' @t35 @t11 @dl @lf @hp @rd @ez
   iterate 15 (first|apply Zp|apply Z6|apply Z48|apply Oe|apply Yt|refine Goes.Zn Zq ?_|refine Zy Hh Za Zq ?_)
   show _∧_∧_
   refine⟨rfl,rfl,M,⟨Nat.le_refl _,fun _ _ _=>rfl⟩,?_⟩
   exact Zq
  ·obtain⟨ob,bl⟩:=wo b0'
   have e1:Vn V b0 (ws.take (j+1))=Y5 (V (Vn V b0 (ws.take j))) (4 * w):=by rw[sn]; exact if_neg b0'
   obtain⟨B,hB⟩:∃ B,Vn V b0 (ws.take j)=B:=⟨_,rfl⟩
   rw[hB] at t11 ob bl e1 b0'
   have ez:((B:Int) == 0)=false:=Bl (by omega)
   obtain⟨hG,eG,MG,nG,rG⟩:=M.get f ob bl
   have c11:=F3 Hh eG
   have vl:=M.len ob bl
   have Yl:(pgL (V B)).length=256:=by rw[Da,vl]
   have cP:=fun {h:Go.Ev.H} {p:Nat} (hp:h.get p=some (.row 256 [pgL (V B)] false))=>Z0k Hh vl hp w6
   obtain⟨z,hz⟩:∃ z,Y5 (V B) (4 * w)=z:=⟨_,rfl⟩
   obtain⟨Y,hY⟩:∃ Y,pgL (V B)=Y:=⟨_,rfl⟩
   rw[hY] at c11 Yl
   simp only[hz,hY] at cP
   rw[hz] at e1
   have Jf:=Uc @t0 @t33' (Ur @t34' @t35 @t11 @dl @lf @hp @rd @ez @Yl)
   iterate 16 (first|apply Zp|apply Z6|apply Yk|apply Yt|refine Goes.Zn Z5 ?_|refine Zy Hh Za Z5 ?_)
   iterate 6 (first|apply Zp|apply Z6|refine Goes.Zn Z5 ?_|refine Zy Hh (Zu Za c11) Z5 ?_)
   refine Dc fun hA eA=>?_
   have nA:hA.next=h.next+1:=by rw[eA]; simp only[H.Zf,H.Zc,nG]
   have kA:∀ m,m<h.next→m≠n+6→hA.get m=h.get m:=fun m hm hne=>by rw[eA]; refine Eq.trans ?_ (rG m hm hne); exact Jg
   have bA:hA.get h.next=some (.row 256 [Y] false):=by rw[eA,←nG]; exact Z5
   have MA:=MG.keep (h2:=hA) (by omega) (fun m hm=>by rw[eA]; exact Jg)
   clear eA
   have c14:=cP bA
   rw[←nG] at c14
   iterate 2 (refine Zy Hh (Zu Za c14) Z5 ?_)
   show Ya 54 none (q11 [1,1,1,1,1,0,1,2]) _ _ _ _
   refine (ih (j+1) _ hA (by omega) MA (sl0.keep fun p' o n' z e=>by cases e; exact kA p (by omega) (by omega)) (fun p' o n' z e=>by cases e; exact⟨pb.1,by omega⟩) ?_ ?_ ?_ ?_ ?_).mono ?_
   ·have Jf:=@t0; exact Zq
   ·have Jf:=@t33; exact Zq
   ·have Jf:=@t34; exact Zq
   ·exact Zj
   ·rw[e1]; exact Zj
   rintro x' ds' ts' h' ⟨w1,w2,w3,w4,w5⟩
   exact⟨w1,w2,w3,⟨by have:=w4.1; omega,fun m hm hne=>(w4.2 m (by omega) hne).trans (kA m hm hne)⟩,w5⟩
end
structure InoP (x:List C) (P:Nat→Nat):Prop where
 xl:x.length=16
 pt:∀ i,i<11→x[4+i]? = some (.int .u32 (P i:Nat))
 pb:∀ i,i<11→P i<4294967296
theorem InoP.rd {x:List C} {P:Nat→Nat} (X:InoP x P) {i:Nat} (hi:i<11):read1 16 [x] (4+i)=some (.int .u32 (P i:Nat)):=by
 have:=Ee (L:=[x]) (sz:=16) (i:=0) (j:=4+i) (by omega) rfl
 rw[Nat.zero_mul,Nat.zero_add] at this
 rw[this]
 exact X.pt i hi
def X9 (V:Nat→List Nat) (P:Nat→Nat) (i:Nat):Nat:=Vn V (P (Uk i).1) (Uk i).2
theorem Zkd (i:Nat):(Uk i).2.length≤8:=by
 unfold Uk
 split
 ·exact (by omega:0≤8)
 ·split
  ·exact (by omega:1≤8)
  ·exact (by omega:2≤8)
section
variable (Hh:Hearts K Tryz.prog)
include Hh
variable {n q a b c e:Nat} {cr:Cr} {md:Int} {S T:List Nat} {V:Nat→List Nat} {h:Go.Ev.H}
theorem Z0j (f:Y2 a b c e=true) (m0:md≠0) (M:HE n q a b c e cr md S T V h) {x:List C} {P:Nat→Nat} (X:InoP x P) {i:Nat} (hi:i<110) (w0:Zuf a b c e V (P (Uk i).1) (Uk i).2) :
  ∃ h',Zg 11 [.c (.ptr (n+13) 0),.g x,.c (.int .i64 (i:Int))] h (.tup [.c (.int .i64 (X9 V P i:Nat)),.c (.int .i64 0)]) h'∧HE n q a b c e cr md S T V h'∧Kr n q h h':=by
 obtain⟨nq,nx,n0⟩:=M.nx
 obtain⟨st,⟨kn,hs⟩,⟨dk,gl⟩,ht⟩:=M.cells
 unfold gdL gdD at gl
 have dm:(md != 0)=true:=Zl2 m0
 obtain⟨p11,w6⟩:=Zo9 hi
 have xl:=X.xl
 have rx:=X.rd p11
 have pb:=X.pb _ p11
 have wl:=Zkd i
 unfold X9
 obtain⟨ws,hws⟩:∃ ws,(Uk i).2=ws:=⟨_,rfl⟩
 have hO:=fun {h:Go.Ev.H} (h0:0<h.next)=>Z3h Hh hi (h:=h) h0
 obtain⟨pk,hpk⟩:∃ pk,(Uk i).1=pk:=⟨_,rfl⟩
 simp only[hws,hpk] at hO w0 w6 p11 rx pb wl ⊢
 obtain⟨b0,hb0⟩:∃ b0,P pk=b0:=⟨_,rfl⟩
 rw[hb0] at rx pb w0 ⊢
 have lp:=fun s=>Zvs Hh (n:=n) (q:=q) (cr:=cr) (md:=md) (S:=S) (T:=T) (s:=s) f w0 w6 wl ws.length 0
 refine F5 ?_
 refine Jd Hh Tryz.f11 ?_
 have Jf:=Mt @f @hs @gl @dm @xl
 iterate 8 (first|apply Zp|apply Z6|refine Goes.Zn Ju ?_|refine Zy Hh (EY Za (X8 Hh)) Ju ?_)
 refine Dc fun hA eA=>?_
 have nA:hA.next=h.next+1:=by rw[eA]; simp only[H.Zf,H.Zc]
 have kA:∀ m,m<h.next→hA.get m=h.get m:=fun m hm=>by rw[eA]; exact Jg
 have bA:hA.get h.next=some (.row 16 [x] false):=by rw[eA]; exact Z5
 clear eA
 obtain⟨hB,s,c3,nB,kB,sB,lB⟩:=hO (h:=hA) (by omega)
 have bB:=(kB h.next (by omega)).trans bA
 have MB:=M.keep (h2:=hB) (by omega) (fun m hm=>(kB m (by omega)).trans (kA m (by omega)))
 obtain⟨lf,ln⟩:=Zwc sB
 have Jf:=Qv Jf @bB @rx @pb @p11 @lf @ln
 iterate 12 (first|apply Zp|apply Z6|apply Yk|refine Goes.Zn Ju ?_|refine Zy Hh (Zu Za c3) Ju ?_)
 refine (lp s _ hB (by omega) MB sB (fun p o n z e=>⟨by have:=(lB p o n z e).1; omega,(lB p o n z e).2⟩) ?_ ?_ ?_ ?_ ?_).mono ?_
 ·exact Zj
 ·exact Zj
 ·exact Zj
 ·exact Zj
 ·exact Zj
 rintro x1 ds1 ts1 h1 ⟨rfl,rfl,M1,k1,t11⟩
 have Jf:=@t11
 iterate 3 (first|apply Zp|apply Yb|refine Zy Hh Za Zq ?_)
 exact⟨_,_,Zq,rfl,M1,⟨by have:=k1.1; omega,fun m hm hne=>(k1.2 m (by omega) hne).trans ((kB m (by omega)).trans (kA m hm))⟩⟩
end
end Go.Proofs.YtdmendgkbikkaaaGreatDoor
