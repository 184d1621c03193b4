/- mapping: what it asks of a store; pointer; Find, over any store whose handle is open. -/
import Derived.Test.YtgikjeaipmeclaaGreatDoorBeg3
import Derived.Test.YtgikjeaipmeclaaGreatDoorHdd
import Derived.Test.YtgikjeaipmeclaaGreatDoorHba
import Derived.Test.YtgikjeaipmeclaaGreatDoorEvC
set_option linter.unusedSimpArgs false
set_option linter.unusedVariables false
set_option linter.unusedSectionVars false
set_option maxRecDepth 100000
set_option maxHeartbeats 4000000
namespace Go.Proofs.YtgikjeaipmeclaaGreatDoor
open Go.Ev
theorem ty35:K.types.get 35=some ti35:=by kernel_rfl
theorem sz35:ti35.size=11:=by rfl
theorem ag35:ti35.agg=true:=by rfl
theorem de35:ti35.desc=(.array 11 34):=by rfl
theorem ze35:ti35.zero=(.g ((List.replicate 11 (.int .u32 0)))):=by rfl
theorem by35:ti35.bytes=44:=by rfl
theorem eq35 (a b:List C):eqT K 20 35 (.g a) (.g b)=(bif true&&Nat.beq a.length 11&&Nat.beq b.length 11 then Yz a b else none):=by kernel_rfl
theorem ty37:K.types.get 37=some ti37:=by kernel_rfl
theorem sz37:ti37.size=16:=by rfl
theorem ag37:ti37.agg=true:=by rfl
theorem fo37_0:Zn K 37 0=some (0,ti5):=by kernel_rfl
theorem fo37_1:Zn K 37 1=some (1,ti3):=by kernel_rfl
theorem fo37_2:Zn K 37 2=some (2,ti34):=by kernel_rfl
theorem fo37_3:Zn K 37 3=some (3,ti3):=by kernel_rfl
theorem fo37_4:Zn K 37 4=some (4,ti35):=by kernel_rfl
theorem fo37_5:Zn K 37 5=some (15,ti34):=by kernel_rfl
theorem bu37 (ps:List (Nat × W)):Yc K 37 (some ps)=gW (Z9 K 37 ps ti37.zero.cells):=by kernel_rfl
theorem ze37:ti37.zero=(.g ([.int .u8 0,.int .i64 0,.int .u32 0,.int .i64 0,.int .u32 0,.int .u32 0,.int .u32 0,.int .u32 0,.int .u32 0,.int .u32 0,.int .u32 0,.int .u32 0,.int .u32 0,.int .u32 0,.int .u32 0,.int .u32 0])):=by rfl
theorem by37:ti37.bytes=80:=by rfl
attribute [go_sem] ty35 sz35 ag35 de35 ze35 by35 eq35 ty37 sz37 ag37 fo37_0 fo37_1 fo37_2 fo37_3 fo37_4 fo37_5 bu37 ze37 by37
noncomputable def q19 (p:List Nat):Code:=piece p (Uq Tryz.f19)
theorem rs38:Tryz.f38.results.toList=[.tmp 2]:=rfl
theorem rs39:Tryz.f39.results.toList=[.tmp 2]:=rfl
theorem rs75:Tryz.f75.results.toList=[.tmp 2]:=rfl
theorem rs41:Tryz.f41.results.toList=[.tmp 4]:=rfl
theorem rs19:Tryz.f19.results.toList=[.tmp 6,.tmp 7]:=rfl
attribute [go_sem] rs38 rs39 rs75 rs41 rs19
noncomputable def Zn6:Kn1:=fun args h=>match args with
 | [.c (.ptr s 0)]=>(Ot h s).bind fun S=>(Bn h S.gd).bind fun G=>some (.w (.c (.int .u8 G.md)),h)
 | _=>none
noncomputable def Zox:Kn1:=fun args h=>match args with
 | [.c (.ptr s 0)]=>(Ot h s).bind fun S=>(Bn h S.gd).bind fun G=>some (.w (.c (.bool (G.md != 0))),h)
 | _=>none
noncomputable def Znl:Kn1:=fun args h=>match args with
 | [.c (.ptr s 0)]=>(Ot h s).bind fun S=>(Bn h S.gd).bind fun _=>(Uo h S.tx).bind fun X=>Yr X.op (some (.w (.c (.int .i64 0)),h))
 | _=>none
attribute [go_sem] Zn6 Zox Znl
def Zy0 (V:Nat→List Nat) (b w:Nat):Nat:=if b=0 then 0 else Uh (V b) (4 * w)
def Nk (V:Nat→List Nat) (b:Nat) (ws:List Nat):Nat:=ws.foldl (Zy0 V) b
theorem Zgy (V:Nat→List Nat):∀ ws,Nk V 0 ws=0
 | []=>rfl
 | w :: ws=>by
  show Nk V (Zy0 V 0 w) ws=0
  rw[show Zy0 V 0 w=0 from if_pos rfl]
  exact Zgy V ws
theorem Zqw (V:Nat→List Nat) (b:Nat) (ws:List Nat) (w:Nat):Nk V b (ws++[w])=Zy0 V (Nk V b ws) w:=by
 unfold Nk
 rw[List.foldl_append]
 rfl
def Zpy (a b c e:Nat) (V:Nat→List Nat) (b0:Nat) (ws:List Nat):Prop:=∀ j,j<ws.length→Nk V b0 (ws.take j)≠0→O6 a b c e ((Nk V b0 (ws.take j):Nat):Int)=true∧Nk V b0 (ws.take j)<2+e+a * b
section
variable (Hh:Hearts K Tryz.prog)
include Hh
theorem Zga {args:List W} {h h':Go.Ev.H} {v:V} (e:Zn6 args h=some (v,h')):Ze K Tryz.prog 38 args h v h':=by
 unfold Zn6 at e
 split at e
 ·rename_i s
  obtain⟨S,hs,e⟩:=Zl e
  have hs:=Yx hs
  obtain⟨G,hg,e⟩:=Zl e
  obtain⟨hg,fb⟩:=Ja hg
  cases e
  refine Ze.goes fits Hh (by kernel_rfl) (by kernel_rfl) (by kernel_rfl) (show Tryz.f38.body=some _ from rfl) rfl ?_
  repeat (first|apply Goes.seq|apply Goes.block|apply Goes.loop|apply Goes.skip|apply Goes.exit|apply Goes.ret|((first|apply Goes.Zm|apply Goes.ops2 fits Hh (Zf Zc (fun _ _ _ _=>Ut Hh))); · simp (maxSteps:=9^6) +decide (disch:=first|omega|(simp only[lens]<;>omega)|decide) only [go_sem,Zb,Za,simprocAttr,hs,hg,gdL,read1]<;>rfl))
  simp (maxSteps:=9^6) +decide (disch:=first|omega|(simp only[lens]<;>omega)|decide) only [go_sem,Zb,Za,simprocAttr]<;>rfl
 ·cases e
theorem Xc {args:List W} {h h':Go.Ev.H} {v:V} (e:Zox args h=some (v,h')):Ze K Tryz.prog 39 args h v h':=by
 unfold Zox at e
 split at e
 ·rename_i s
  obtain⟨S,hs,e⟩:=Zl e
  have hs:=Yx hs
  obtain⟨G,hg,e⟩:=Zl e
  obtain⟨hg,fb⟩:=Ja hg
  cases e
  refine Ze.goes fits Hh (by kernel_rfl) (by kernel_rfl) (by kernel_rfl) (show Tryz.f39.body=some _ from rfl) rfl ?_
  repeat (first|apply Goes.seq|apply Goes.block|apply Goes.loop|apply Goes.skip|apply Goes.exit|apply Goes.ret|((first|apply Goes.Zm|apply Goes.ops2 fits Hh (Zf Zc (fun _ _ _ _=>Zga Hh))); · simp (maxSteps:=9^6) +decide (disch:=first|omega|(simp only[lens]<;>omega)|decide) only [go_sem,Zb,Za,simprocAttr,hs,hg,gdL,fb]<;>rfl))
  simp (maxSteps:=9^6) +decide (disch:=first|omega|(simp only[lens]<;>omega)|decide) only [go_sem,Zb,Za,simprocAttr]<;>rfl
 ·cases e
theorem Zgs {args:List W} {h h':Go.Ev.H} {v:V} (e:Znl args h=some (v,h')):Ze K Tryz.prog 75 args h v h':=by
 unfold Znl at e
 split at e
 ·rename_i s
  obtain⟨S,hs,e⟩:=Zl e
  have hs:=Yx hs
  obtain⟨G,hg,e⟩:=Zl e
  obtain⟨hg,fb⟩:=Ja hg
  obtain⟨X,ht,e⟩:=Zl e
  have ht:=Ym ht
  obtain⟨bo,e⟩:=Zq.1 e
  cases e
  refine Ze.goes fits Hh (by kernel_rfl) (by kernel_rfl) (by kernel_rfl) (show Tryz.f75.body=some _ from rfl) rfl ?_
  repeat (first|apply Goes.seq|apply Goes.block|apply Goes.loop|apply Goes.skip|apply Goes.exit|apply Goes.ret|((first|apply Goes.Zm|apply Goes.ops2 fits Hh (Zf (Zf Zc (fun _ _ _ _=>Zbo Hh)) (fun _ _ _ _=>Zdv Hh))); · simp (maxSteps:=9^6) +decide (disch:=first|omega|(simp only[lens]<;>omega)|decide) only [go_sem,Zb,Za,simprocAttr,hs,ht,hg,gdL,fb,bo]<;>rfl))
  simp (maxSteps:=9^6) +decide (disch:=first|omega|(simp only[lens]<;>omega)|decide) only [go_sem,Zb,Za,simprocAttr]<;>rfl
 ·cases e
theorem Z0m {h:Go.Ev.H} {p w:Nat} {ns:List Nat} (nl:ns.length=256) (hp:h.get p=some (.row 256 [pgL ns] false)) (hw:w<64):Ze K Tryz.prog 41 [.c (.ptr p 0),.c (.int .i64 (w:Int))] h (.w (.c (.int .i64 ((Uh ns (4 * w):Nat):Int)))) h:=by
 have e1:(4:Int) * (w:Int)=((4 * w:Nat):Int):=rfl
 have g4:=Zym ns (4 * w)
 have xl:(pgL ns).length=256:=by rw[Ug,nl]
 have xb:=Za5 ns
 have u4:Uh (unN (pgL ns)) (4 * w)=Uh ns (4 * w):=by rw[Oz,N7]
 have r5:read1 256 [pgL ns] 255=some (.int .u8 ((atN ns 255:Nat):Int)):=Zhz ⟨by omega,by omega⟩
 have rd:reaches 0 256 (some (.row 256 [pgL ns] false))=true:=by
  show (match read1 256 [pgL ns] 255 with|some _=>Nat.ble 1 256|none=>false)=true
  rw[r5]
  rfl
 obtain⟨Y,hY⟩:∃ Y,pgL ns=Y:=⟨_,rfl⟩
 obtain⟨z,hz⟩:∃ z,Uh ns (4 * w)=z:=⟨_,rfl⟩
 obtain⟨u,hu⟩:∃ u,4 * w=u:=⟨_,rfl⟩
 have ul:u+4≤256:=by omega
 rw[hY] at hp xl xb u4 rd
 rw[hz] at u4 g4 ⊢
 rw[hu] at u4 e1
 refine Ze.goes fits Hh (by kernel_rfl) (by kernel_rfl) (by kernel_rfl) (show Tryz.f41.body=some _ from rfl) rfl ?_
 repeat (first|apply Goes.seq|apply Goes.block|apply Goes.loop|apply Goes.skip|apply Goes.exit|apply Goes.ret|((first|apply Goes.Zm|apply Goes.ops2 fits Hh (Zf Zc (fun _ _ _ _=>Zgl Hh))); · simp (maxSteps:=9^6) +decide (disch:=first|omega|(simp only[lens]<;>omega)|decide) only [go_sem,Zb,Za,simprocAttr,e1,hp,xl,xb,u4,rd,Nat.zero_add,Y0,Uc,bound,Ui]<;>rfl))
 simp (maxSteps:=9^6) +decide (disch:=first|omega|(simp only[lens]<;>omega)|decide) only [go_sem,Zb,Za,simprocAttr]<;>rfl
variable {n q a b c e:Nat} {cr:Cr} {md:Int} {S T:List Nat} {V:Nat→List Nat}
theorem Zvo (f:Y4 a b c e=true) {b0:Nat} {ws:List Nat} {s:C} (w0:Zpy a b c e V b0 ws) (w64:∀ w∈ws,w<64) (wl:ws.length≤8):∀ (k j:Nat) (ts:Zu) (h:Go.Ev.H),j+k=ws.length→HE n q a b c e cr md S T V h→SlI h s ws→(∀ p o n z,s=.slice p o n z→q+9≤p∧p<h.next)→Zk ts 0=.w (.c (.ptr (n+13) 0))→Zk ts 33=.w (.c s)→Zk ts 34=.w (.c (.int .i64 (ws.length:Nat)))→Zk ts 35=.w (.c (.int .i64 (j:Nat)))→Zk ts 11=.w (.c (.int .i64 (Nk V b0 (ws.take j):Nat))) →
  Goes K Tryz.prog 54 none (q19 [1,1,1,1,1,0,1,2]) [] ts h fun x ds' ts' h'=>x=.exit 0∧ds'=[]∧HE n q a b c e cr md S T V h'∧Kr n q h h'∧Zk ts' 11=.w (.c (.int .i64 (Nk V b0 ws:Nat))):=by
 obtain⟨g1,g2,g3,g4,g5,g6,g7,g8,g9,g10,g11⟩:=Yk f
 intro k
 induction k with
 | zero =>
  intro j ts h hj M sl sb t0 t33 t34 t35 t11
  obtain rfl:j=ws.length:=by omega
  rw[List.take_length] at t11
  have dl:decide ((ws.length:Int)<(ws.length:Int))=false:=decide_eq_false (by omega)
  iterate 6 (first|apply Goes.seq|apply Goes.exit|apply Goes.loop|((first|apply Goes.Zm|apply Goes.ops2 fits Hh Zc); · simp (maxSteps:=9^6) +decide (disch:=first|omega|(simp only[lens]<;>omega)|decide) only [go_sem,Zb,Za,simprocAttr,t34,t35,dl]<;>rfl))
  refine⟨rfl,rfl,M,⟨Nat.le_refl _,fun _ _ _=>rfl⟩,?_⟩
  simp (maxSteps:=9^6) +decide (disch:=first|omega|(simp only[lens]<;>omega)|decide) only [go_sem,Zb,Za,simprocAttr,t11]
 | succ k ih =>
  intro j ts h hj M sl sb t0 t33 t34 t35 t11
  have jl:j<ws.length:=by omega
  obtain⟨w,hw⟩:∃ w,ws[j]? = some w:=⟨_,List.getElem?_eq_getElem jl⟩
  have w6:=w64 w (List.mem_of_getElem? hw)
  have tk:ws.take (j+1)=ws.take j++[w]:=by rw[List.take_add_one,hw]; rfl
  have sn:=Zqw V b0 (ws.take j) w
  rw[←tk] at sn
  have rd:=rdI hw
  have dl:decide ((j:Int)<(ws.length:Int))=true:=decide_eq_true (by omega)
  have wo:=w0 j jl
  have sl0:=sl
  obtain⟨e0,_⟩|⟨p,_,rfl,hp⟩:=sl
  ·rw[e0] at jl; simp at jl
  have pb:=sb _ _ _ _ rfl
  have lf:=Wj
  have t33':=t33
  have t34':=t34
  obtain⟨nq,nx,n0⟩:=M.nx
  obtain⟨N,hN⟩:∃ N,ws.length=N:=⟨_,rfl⟩
  obtain⟨R,hR⟩:∃ R,rwI ws=R:=⟨_,rfl⟩
  rw[hN] at t33' t34' dl jl
  rw[hR] at hp rd
  by_cases b0':Nk V b0 (ws.take j)=0
  ·rw[b0'] at t11
   have all0:Nk V b0 ws=0:=by
    have:ws=ws.take j++ws.drop j:=(List.take_append_drop j ws).symm
    rw[this]
    unfold Nk at b0' ⊢
    rw[List.foldl_append,b0']
    exact Zgy V _
   have ez:(((0:Nat):Int) == 0)=true:=rfl
   rw[all0]
   iterate 15 (first|apply Goes.seq|apply Goes.skip|apply Goes.block2|apply Goes.exit|apply Goes.loop|((first|apply Goes.Zm|apply Goes.ops2 fits Hh Zc); · simp (maxSteps:=9^6) +decide (disch:=first|omega|(simp only[lens]<;>omega)|decide) only [go_sem,Zb,Za,simprocAttr,t33',t34',t35,t11,dl,lf,hp,rd,ez]<;>rfl))
   show _∧_∧_
   refine⟨rfl,rfl,M,⟨Nat.le_refl _,fun _ _ _=>rfl⟩,?_⟩
   simp (maxSteps:=9^6) +decide (disch:=first|omega|(simp only[lens]<;>omega)|decide) only [go_sem,Zb,Za,simprocAttr,t11]<;>rfl
  ·obtain⟨ob,bl⟩:=wo b0'
   have e1:Nk V b0 (ws.take (j+1))=Uh (V (Nk V b0 (ws.take j))) (4 * w):=by rw[sn]; exact if_neg b0'
   obtain⟨B,hB⟩:∃ B,Nk V b0 (ws.take j)=B:=⟨_,rfl⟩
   rw[hB] at t11 ob bl e1 b0'
   have ez:((B:Int) == 0)=false:=Dx (by omega)
   obtain⟨hG,eG,MG,nG,rG⟩:=M.get f ob bl
   have c11:=D7 Hh eG
   have vl:=M.len ob bl
   have Yl:(pgL (V B)).length=256:=by rw[Ug,vl]
   have cP:=fun {h:Go.Ev.H} {p:Nat} (hp:h.get p=some (.row 256 [pgL (V B)] false))=>Z0m Hh vl hp w6
   obtain⟨z,hz⟩:∃ z,Uh (V B) (4 * w)=z:=⟨_,rfl⟩
   obtain⟨Y,hY⟩:∃ Y,pgL (V B)=Y:=⟨_,rfl⟩
   rw[hY] at c11 Yl
   simp only[hz,hY] at cP
   rw[hz] at e1
   iterate 16 (first|apply Goes.seq|apply Goes.skip|apply Goes.block|apply Goes.loop|((first|apply Goes.Zm|apply Goes.ops2 fits Hh Zc); · simp (maxSteps:=9^6) +decide (disch:=first|omega|(simp only[lens]<;>omega)|decide) only [go_sem,Za,simprocAttr,t0,t33',t34',t35,t11,dl,lf,hp,rd,ez,Yl]<;>rfl))
   iterate 6 (first|apply Goes.seq|apply Goes.skip|((first|apply Goes.Zm|apply Goes.ops2 fits Hh (Zt Zc c11)); · simp (maxSteps:=9^6) +decide (disch:=first|omega|(simp only[lens]<;>omega)|decide) only [go_sem,Za,simprocAttr,Zy,t0,t33',t34',t35,t11,dl,lf,hp,rd,ez,Yl]<;>rfl))
   refine Goes.abs fun hA eA=>?_
   have nA:hA.next=h.next+1:=by rw[eA]; simp only[H.Zj,H.Zg,nG]
   have kA:∀ m,m<h.next→m≠n+6→hA.get m=h.get m:=fun m hm hne=>by rw[eA]; refine Eq.trans ?_ (rG m hm hne); simp (disch:=first|omega|(simp only[lens]<;>omega)) only [go_sem]
   have bA:hA.get h.next=some (.row 256 [Y] false):=by rw[eA,←nG]; simp (maxSteps:=9^6) +decide (disch:=first|omega|(simp only[lens]<;>omega)|decide) only [go_sem,Za,simprocAttr,Yl]<;>rfl
   have MA:=MG.keep (h2:=hA) (by omega) (fun m hm=>by rw[eA]; simp (disch:=first|omega|(simp only[lens]<;>omega)) only [go_sem])
   clear eA
   have c14:=cP bA
   rw[←nG] at c14
   iterate 2 ((apply Goes.ops2 fits Hh (Zt Zc c14); · simp (maxSteps:=9^6) +decide (disch:=first|omega|(simp only[lens]<;>omega)|decide) only [go_sem,Za,simprocAttr,Zy,t0,t33',t34',t35,t11,dl,lf,hp,rd,ez,Yl]<;>rfl))
   show Goes K Tryz.prog 54 none (q19 [1,1,1,1,1,0,1,2]) _ _ _ _
   refine (ih (j+1) _ hA (by omega) MA (sl0.keep fun p' o n' z e=>by cases e; exact kA p (by omega) (by omega)) (fun p' o n' z e=>by cases e; exact⟨pb.1,by omega⟩) ?_ ?_ ?_ ?_ ?_).mono ?_
   ·simp (maxSteps:=9^6) +decide (disch:=first|omega|(simp only[lens]<;>omega)|decide) only [go_sem,Zb,Za,simprocAttr,t0]
   ·simp (maxSteps:=9^6) +decide (disch:=first|omega|(simp only[lens]<;>omega)|decide) only [go_sem,Zb,Za,simprocAttr,t33]
   ·simp (maxSteps:=9^6) +decide (disch:=first|omega|(simp only[lens]<;>omega)|decide) only [go_sem,Zb,Za,simprocAttr,t34]
   ·simp (maxSteps:=9^6) +decide (disch:=first|omega|(simp only[lens]<;>omega)|decide) only [go_sem,Zb,Za,simprocAttr]<;>rfl
   ·rw[e1]; simp (maxSteps:=9^6) +decide (disch:=first|omega|(simp only[lens]<;>omega)|decide) only [go_sem,Zb,Za,simprocAttr]<;>rfl
   rintro x' ds' ts' h' ⟨w1,w2,w3,w4,w5⟩
   exact⟨w1,w2,w3,⟨by have:=w4.1; omega,fun m hm hne=>(w4.2 m (by omega) hne).trans (kA m hm hne)⟩,w5⟩
end
theorem rs17:Tryz.f17.results.toList=[.tmp 2]:=rfl
theorem rs21:Tryz.f21.results.toList=[.tmp 2]:=rfl
theorem rs18:Tryz.f18.results.toList=[.tmp 2]:=rfl
theorem rs12:Tryz.f12.results.toList=[.tmp 8]:=rfl
attribute [go_sem] rs17 rs21 rs18 rs12
noncomputable def Zh4:Kn1:=fun args h=>match args with
 | [.c (.ptr s 0)]=>(Ot h s).bind fun S=>(Bn h S.gd).bind fun G=>some (.w (.c (.bool (G.md != 0))),h)
 | _=>none
noncomputable def Zh1:Kn1:=fun args h=>match args with
 | [.c (.ptr s 0)]=>(Ot h s).bind fun S=>(Bn h S.gd).bind fun _=>(Uo h S.tx).bind fun X=>Yr X.op (some (.w (.c (.int .i64 0)),h))
 | _=>none
def O8 (x:List C):Option Int:=match x with
 | [_,_,_,.int .i64 z,_,_,_,_,_,_,_,_,_,_,_,_]=>some z
 | _=>none
noncomputable def Zir:Kn1:=fun args h=>match args with
 | [.g x]=>(O8 x).bind fun z=>Yr (decide (0≤z)&&decide (z≤16777216)) (some (.w (.c (.bool true)),h))
 | _=>none
noncomputable def Zms:Kn1:=fun args h=>match args with
 | [.c (.ptr s 0),.g x,.c (.int .i64 o),.c (.int .i64 n)]=>(Ot h s).bind fun S=>(Bn h S.gd).bind fun G=>(Uo h S.tx).bind fun X=>(O8 x).bind fun z=>Yr (X.op&&(G.md != 0)&&decide (0≤z)&&decide (z≤16777216)&&decide (0≤o)&&decide (0≤n)&&decide (n≤1024)&&decide (o≤16777216 - n)) (some (.w (.c (.int .i64 0)),h))
 | _=>none
attribute [go_sem] Zh4 Zh1 Zir Zms
theorem Jq {x:List C} {z:Int} (e:O8 x=some z):x.length=16∧read1 16 [x] 3=some (.int .i64 z):=by
 unfold O8 at e
 split at e
 ·cases e; exact⟨rfl,rfl⟩
 ·cases e
section
variable (Hh:Hearts K Tryz.prog)
include Hh
theorem Eh {args:List W} {h h':Go.Ev.H} {v:V} (e:Zh4 args h=some (v,h')):Ze K Tryz.prog 17 args h v h':=by
 unfold Zh4 at e
 split at e
 ·rename_i s
  obtain⟨S,hs,e⟩:=Zl e
  have hs:=Yx hs
  obtain⟨G,hg,e⟩:=Zl e
  obtain⟨hg,fb⟩:=Ja hg
  cases e
  refine Ze.goes fits Hh (by kernel_rfl) (by kernel_rfl) (by kernel_rfl) (show Tryz.f17.body=some _ from rfl) rfl ?_
  repeat (first|apply Goes.seq|apply Goes.block|apply Goes.loop|apply Goes.skip|apply Goes.exit|apply Goes.ret|((first|apply Goes.Zm|apply Goes.ops2 fits Hh (Zf Zc (fun _ _ _ _=>Zga Hh))); · simp (maxSteps:=9^6) +decide (disch:=first|omega|(simp only[lens]<;>omega)|decide) only [go_sem,Zb,Za,simprocAttr,hs,hg,gdL,fb]<;>rfl))
  simp (maxSteps:=9^6) +decide (disch:=first|omega|(simp only[lens]<;>omega)|decide) only [go_sem,Zb,Za,simprocAttr]<;>rfl
 ·cases e
theorem We {args:List W} {h h':Go.Ev.H} {v:V} (e:Zh1 args h=some (v,h')):Ze K Tryz.prog 21 args h v h':=by
 unfold Zh1 at e
 split at e
 ·rename_i s
  obtain⟨S,hs,e⟩:=Zl e
  have hs:=Yx hs
  obtain⟨G,hg,e⟩:=Zl e
  obtain⟨hg,fb⟩:=Ja hg
  obtain⟨X,ht,e⟩:=Zl e
  have ht:=Ym ht
  obtain⟨bo,e⟩:=Zq.1 e
  cases e
  refine Ze.goes fits Hh (by kernel_rfl) (by kernel_rfl) (by kernel_rfl) (show Tryz.f21.body=some _ from rfl) rfl ?_
  repeat (first|apply Goes.seq|apply Goes.block|apply Goes.loop|apply Goes.skip|apply Goes.exit|apply Goes.ret|((first|apply Goes.Zm|apply Goes.ops2 fits Hh (Zf (Zf Zc (fun _ _ _ _=>Zbo Hh)) (fun _ _ _ _=>Zdv Hh))); · simp (maxSteps:=9^6) +decide (disch:=first|omega|(simp only[lens]<;>omega)|decide) only [go_sem,Zb,Za,simprocAttr,hs,ht,hg,gdL,fb,bo]<;>rfl))
  simp (maxSteps:=9^6) +decide (disch:=first|omega|(simp only[lens]<;>omega)|decide) only [go_sem,Zb,Za,simprocAttr]<;>rfl
 ·cases e
theorem En {args:List W} {h h':Go.Ev.H} {v:V} (e:Zir args h=some (v,h')):Ze K Tryz.prog 18 args h v h':=by
 unfold Zir at e
 split at e
 ·rename_i x
  obtain⟨z,hz,e⟩:=Zl e
  obtain⟨b,e⟩:=Zq.1 e
  simp only[Bool.and_eq_true,decide_eq_true_eq] at b
  cases e
  obtain⟨xl,rx⟩:=Jq hz
  have d1:decide (z ≥ 0)=true:=decide_eq_true b.1
  have d2:decide (z≤16777216)=true:=decide_eq_true b.2
  obtain⟨v,h',cc,rfl,hk⟩:∃ v h',Ze K Tryz.prog 18 [.g x] h v h'∧v=.w (.c (.bool true))∧∀ m,m<h.next→h'.get m=h.get m:=by
   refine Ze.Yi fits Hh (by kernel_rfl) (by kernel_rfl) (by kernel_rfl) (show Tryz.f18.body=some _ from rfl) rfl ?_
   iterate 3 (first|apply Goes.seq|(apply Goes.ops2 fits Hh Zc; · simp (maxSteps:=9^6) +decide (disch:=first|omega|(simp only[lens]<;>omega)|decide) only [go_sem,Za,simprocAttr,xl,rx,d1,d2,Zx]<;>rfl))
   refine Goes.ops2 fits Hh Zc (by
    iterate 9 (refine Zz (by simp (maxSteps:=9^6) +decide (disch:=first|omega|(simp only[lens]<;>omega)|decide) only [go_sem,Za,simprocAttr,xl,rx,d1,d2,Zx]<;>rfl) ?_)
    exact Z0) ?_
   apply Goes.ret
   exact⟨_,_,(by simp (maxSteps:=9^6) +decide (disch:=first|omega|(simp only[lens]<;>omega)|decide) only [go_sem,Zb,Za,simprocAttr]<;>rfl),rfl,fun m hm=>by simp (disch:=first|omega|(simp only[lens]<;>omega)) only [go_sem]⟩
  exact cc.quiet rfl hk
 ·cases e
theorem Zhh {args:List W} {h h':Go.Ev.H} {v:V} (e:Zms args h=some (v,h')):Ze K Tryz.prog 12 args h v h':=by
 unfold Zms at e
 split at e
 ·rename_i s x o n
  obtain⟨S,hs,e⟩:=Zl e
  have hs:=Yx hs
  obtain⟨G,hg,e⟩:=Zl e
  obtain⟨hg,fb⟩:=Ja hg
  obtain⟨X,ht,e⟩:=Zl e
  have ht:=Ym ht
  obtain⟨z,hz,e⟩:=Zl e
  obtain⟨b,e⟩:=Zq.1 e
  simp only[Bool.and_eq_true,decide_eq_true_eq] at b
  obtain⟨⟨⟨⟨⟨⟨⟨bo,bm⟩,z0⟩,z1⟩,o0⟩,n0⟩,n1⟩,on⟩:=b
  cases e
  obtain⟨xl,rx⟩:=Jq hz
  have d1:decide (o<0)=false:=decide_eq_false (by omega)
  have d2:decide (n > 1024)=false:=decide_eq_false (by omega)
  have d3:decide (o > 16777216 - n)=false:=decide_eq_false (by omega)
  refine Ze.tidy ⟨Tryz.f12,Tryz.func12,by kernel_rfl,by decide⟩ fun tidy=>?_
  have l1:=tidy _ _ hs
  have l2:=tidy _ _ hg
  have l3:=tidy _ _ ht
  obtain⟨v,h',cc,rfl,hk⟩:∃ v h',Ze K Tryz.prog 12 [.c (.ptr s 0),.g x,.c (.int .i64 o),.c (.int .i64 n)] h v h'∧v=.w (.c (.int .i64 0))∧∀ m,m<h.next→h'.get m=h.get m:=by
   refine Ze.Yi fits Hh (by kernel_rfl) (by kernel_rfl) (by kernel_rfl) (show Tryz.f12.body=some _ from rfl) rfl ?_
   iterate 8 (first|apply Goes.seq|apply Goes.block|((first|apply Goes.Zm|apply Goes.ops2 fits Hh (Zf Zc (fun _ _ _ _=>Eh Hh))); · simp (maxSteps:=9^6) +decide (disch:=first|omega|(simp only[lens]<;>omega)|decide) only [go_sem,Za,simprocAttr,hs,hg,gdL,fb,ht,bo,bm,xl,hz,z0,z1,d1,d2,d3,Zx]<;>rfl))
   refine Goes.ops2 fits Hh (Zf Zc (fun _ _ _ _=>En Hh)) (by
    iterate 8 (refine Zz (by simp (maxSteps:=9^6) +decide (disch:=first|omega|(simp only[lens]<;>omega)|decide) only [go_sem,Za,simprocAttr,hs,hg,gdL,fb,ht,bo,bm,xl,hz,z0,z1,d1,d2,d3,Zx]<;>rfl) ?_)
    exact Z0) ?_
   iterate 11 (first|apply Goes.seq|apply Goes.skip|apply Goes.ret|((first|apply Goes.Zm|apply Goes.ops2 fits Hh (Zf Zc (fun _ _ _ _=>We Hh))); · simp (maxSteps:=9^6) +decide (disch:=first|omega|(simp only[lens]<;>omega)|decide) only [go_sem,Za,simprocAttr,hs,hg,gdL,fb,ht,bo,bm,xl,hz,z0,z1,d1,d2,d3,Zx]<;>rfl))
   exact⟨_,_,(by simp (maxSteps:=9^6) +decide (disch:=first|omega|(simp only[lens]<;>omega)|decide) only [go_sem,Zb,Za,simprocAttr]<;>rfl),rfl,fun m hm=>by simp (disch:=first|omega|(simp only[lens]<;>omega)) only [go_sem]⟩
  exact cc.quiet rfl hk
 ·cases e
end
theorem rs14:Tryz.f14.results.toList=[.tmp 4]:=rfl
theorem rs9:Tryz.f9.results.toList=[.cell 6 37,.tmp 7]:=rfl
attribute [go_sem] rs14 rs9
noncomputable def Zik:Kn1:=fun args h=>match args with
 | [.c (.ptr _ 0),.g x]=>(O8 x).bind fun z=>Yr (decide (0≤z)&&decide (z % 256=0)) (some (.w (.c (.int .i64 0)),h))
 | _=>none
noncomputable def Tv:Kn1:=fun args h=>match args with
 | [.c (.ptr s 0),.g x,.c (.int .i64 n)]=>(Ot h s).bind fun S=>(Bn h S.gd).bind fun G=>(Uo h S.tx).bind fun X=>(O8 x).bind fun z=>Yr (X.op&&(G.md != 0)&&decide (0≤z)&&decide (z≤16777216)&&decide (z % 256=0)&&decide (0≤n)&&decide (n≤16777216)&&x.all C.flat) (some (.tup [.g (x.set 3 (.int .i64 n)),.c (.int .i64 0)],h))
 | _=>none
attribute [go_sem] Zik Tv
section
variable (Hh:Hearts K Tryz.prog)
include Hh
theorem Zdt {args:List W} {h h':Go.Ev.H} {v:V} (e:Zik args h=some (v,h')):Ze K Tryz.prog 14 args h v h':=by
 unfold Zik at e
 split at e
 ·rename_i s x
  obtain⟨z,hz,e⟩:=Zl e
  obtain⟨b,e⟩:=Zq.1 e
  simp only[Bool.and_eq_true,decide_eq_true_eq] at b
  cases e
  obtain⟨xl,rx⟩:=Jq hz
  obtain⟨n,rfl⟩:∃ n:Nat,z=(n:Int):=⟨z.toNat,by omega⟩
  have rm:Bo .i64 (n:Int) 256=some (.int .i64 0):=by
   have:=U3 (k:=.i64) (a:=n) (b:=256) (by omega)
   rwa [show n % 256=0 by omega] at this
  obtain⟨v,h',cc,rfl,hk⟩:∃ v h',Ze K Tryz.prog 14 [.c (.ptr s 0),.g x] h v h'∧v=.w (.c (.int .i64 0))∧∀ m,m<h.next→h'.get m=h.get m:=by
   refine Ze.Yi fits Hh (by kernel_rfl) (by kernel_rfl) (by kernel_rfl) (show Tryz.f14.body=some _ from rfl) rfl ?_
   iterate 11 (first|apply Goes.seq|apply Goes.ret|((first|apply Goes.Zm|apply Goes.ops2 fits Hh Zc); · simp (maxSteps:=9^6) +decide (disch:=first|omega|(simp only[lens]<;>omega)|decide) only [go_sem,Za,simprocAttr,xl,rx,rm,Zx]<;>rfl))
   exact⟨_,_,(by simp (maxSteps:=9^6) +decide (disch:=first|omega|(simp only[lens]<;>omega)|decide) only [go_sem,Zb,Za,simprocAttr]<;>rfl),rfl,fun m hm=>by simp (disch:=first|omega|(simp only[lens]<;>omega)) only [go_sem]⟩
  exact cc.quiet rfl hk
 ·cases e
theorem Zkn {args:List W} {h h':Go.Ev.H} {v:V} (e:Tv args h=some (v,h')):Ze K Tryz.prog 9 args h v h':=by
 unfold Tv at e
 split at e
 ·rename_i s x n
  obtain⟨S,hs,e⟩:=Zl e
  have hs:=Yx hs
  obtain⟨G,hg,e⟩:=Zl e
  obtain⟨hg,fb⟩:=Ja hg
  obtain⟨X,ht,e⟩:=Zl e
  have ht:=Ym ht
  obtain⟨z,hz,e⟩:=Zl e
  obtain⟨b,e⟩:=Zq.1 e
  simp only[Bool.and_eq_true,decide_eq_true_eq] at b
  obtain⟨⟨⟨⟨⟨⟨⟨bo,bm⟩,z0⟩,z1⟩,z2⟩,n0⟩,n1⟩,xf⟩:=b
  cases e
  obtain⟨xl,rx⟩:=Jq hz
  have d1:decide (n<0)=false:=decide_eq_false (by omega)
  have d2:decide (n > 16777216)=false:=decide_eq_false (by omega)
  have w3:Z4 16 [x] 3 [.int .i64 n]=some [x.set 3 (.int .i64 n)]:=by
   show (bif Nat.blt 3 x.length then some [x.set 3 (.int .i64 n)] else none)=_
   rw[xl]; rfl
  have xf':(x.set 3 (.int .i64 n)).all C.flat=true:=by
   rw[List.all_eq_true] at xf ⊢
   intro c hc
   rcases List.mem_or_eq_of_mem_set hc with w|w
   ·exact xf c w
   ·rw[w]; rfl
  have wl:(x.set 3 (.int .i64 n)).length=16:=by rw[List.length_set,xl]
  refine Ze.tidy ⟨Tryz.f9,Tryz.func9,by kernel_rfl,by decide⟩ fun tidy=>?_
  have l1:=tidy _ _ hs
  have l2:=tidy _ _ hg
  have l3:=tidy _ _ ht
  obtain⟨y,hy⟩:∃ y,x.set 3 (.int .i64 n)=y:=⟨_,rfl⟩
  rw[hy] at w3 wl xf' ⊢
  have yt:y.take 16=y:=List.take_of_length_le (by omega)
  obtain⟨v,h',cc,rfl,hk⟩:∃ v h',Ze K Tryz.prog 9 [.c (.ptr s 0),.g x,.c (.int .i64 n)] h v h'∧v=.tup [.g y,.c (.int .i64 0)]∧∀ m,m<h.next→h'.get m=h.get m:=by
   by_cases dz:n > z
   ·have d3:decide (n > z)=true:=decide_eq_true dz
    refine Ze.Yi fits Hh (by kernel_rfl) (by kernel_rfl) (by kernel_rfl) (show Tryz.f9.body=some _ from rfl) rfl ?_
    iterate 9 (first|apply Goes.seq|apply Goes.skip|((first|apply Goes.Zm|apply Goes.ops2 fits Hh (Zf Zc (fun _ _ _ _=>Eh Hh))); · simp (maxSteps:=9^6) +decide (disch:=first|omega|(simp only[lens]<;>omega)|decide) only [go_sem,Za,simprocAttr,hs,hg,gdL,fb,ht,bo,bm,xl,rx,hz,z0,z1,z2,d1,d2,d3,w3,wl,Zx]<;>rfl))
    refine Goes.ops2 fits Hh (Zf Zc (fun _ _ _ _=>En Hh)) (by
     iterate 7 (refine Zz (by simp (maxSteps:=9^6) +decide (disch:=first|omega|(simp only[lens]<;>omega)|decide) only [go_sem,Za,simprocAttr,hs,hg,gdL,fb,ht,bo,bm,xl,rx,hz,z0,z1,z2,d1,d2,d3,w3,wl,Zx]<;>rfl) ?_)
     exact Z0) ?_
    iterate 29 (first|apply Goes.seq|apply Goes.skip|apply Goes.ret|((first|apply Goes.Zm|apply Goes.ops2 fits Hh (Zf (Zf Zc (fun _ _ _ _=>We Hh)) (fun _ _ _ _=>Zdt Hh))); · simp (maxSteps:=9^6) +decide (disch:=first|omega|(simp only[lens]<;>omega)|decide) only [go_sem,Za,simprocAttr,hs,hg,gdL,fb,ht,bo,bm,xl,rx,hz,z0,z1,z2,d1,d2,d3,w3,wl,Zx]<;>rfl))
    exact⟨_,_,(by simp (maxSteps:=9^6) +decide (disch:=first|omega|(simp only[lens]<;>omega)|decide) only [go_sem,Zb,Za,simprocAttr,yt]<;>rfl),rfl,fun m hm=>by simp (disch:=first|omega|(simp only[lens]<;>omega)) only [go_sem]⟩
   ·have d3:decide (n > z)=false:=decide_eq_false dz
    refine Ze.Yi fits Hh (by kernel_rfl) (by kernel_rfl) (by kernel_rfl) (show Tryz.f9.body=some _ from rfl) rfl ?_
    iterate 9 (first|apply Goes.seq|apply Goes.skip|((first|apply Goes.Zm|apply Goes.ops2 fits Hh (Zf Zc (fun _ _ _ _=>Eh Hh))); · simp (maxSteps:=9^6) +decide (disch:=first|omega|(simp only[lens]<;>omega)|decide) only [go_sem,Za,simprocAttr,hs,hg,gdL,fb,ht,bo,bm,xl,rx,hz,z0,z1,z2,d1,d2,d3,w3,wl,Zx]<;>rfl))
    refine Goes.ops2 fits Hh (Zf Zc (fun _ _ _ _=>En Hh)) (by
     iterate 7 (refine Zz (by simp (maxSteps:=9^6) +decide (disch:=first|omega|(simp only[lens]<;>omega)|decide) only [go_sem,Za,simprocAttr,hs,hg,gdL,fb,ht,bo,bm,xl,rx,hz,z0,z1,z2,d1,d2,d3,w3,wl,Zx]<;>rfl) ?_)
     exact Z0) ?_
    iterate 24 (first|apply Goes.seq|apply Goes.skip|apply Goes.ret|((first|apply Goes.Zm|apply Goes.ops2 fits Hh (Zf Zc (fun _ _ _ _=>We Hh))); · simp (maxSteps:=9^6) +decide (disch:=first|omega|(simp only[lens]<;>omega)|decide) only [go_sem,Za,simprocAttr,hs,hg,gdL,fb,ht,bo,bm,xl,rx,hz,z0,z1,z2,d1,d2,d3,w3,wl,Zx]<;>rfl))
    exact⟨_,_,(by simp (maxSteps:=9^6) +decide (disch:=first|omega|(simp only[lens]<;>omega)|decide) only [go_sem,Zb,Za,simprocAttr,yt]<;>rfl),rfl,fun m hm=>by simp (disch:=first|omega|(simp only[lens]<;>omega)) only [go_sem]⟩
  refine cc.quiet ?_ hk
  show ((W.g y).flat&&_)=true
  rw[show (W.g y).flat=y.all C.flat from rfl,xf']; rfl
 ·cases e
end
end Go.Proofs.YtgikjeaipmeclaaGreatDoor
