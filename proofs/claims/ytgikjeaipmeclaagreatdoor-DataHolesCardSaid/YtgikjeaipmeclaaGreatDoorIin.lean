/- The small file system with 186 blocks: its data blocks are given one behind the other. -/
import Derived.Test.YtgikjeaipmeclaaGreatDoorMpy
import Derived.Test.YtgikjeaipmeclaaGreatDoorBtd
import Derived.Test.YtgikjeaipmeclaaGreatDoorObg
import Derived.KernelRfl
import Derived.Test.YtgikjeaipmeclaaGreatDoorDrd
import Derived.Test.YtgikjeaipmeclaaGreatDoorDwr
import Derived.Test.YtgikjeaipmeclaaGreatDoorSli
import Derived.Test.YtgikjeaipmeclaaGreatDoorEvC
set_option linter.unusedSimpArgs false
set_option linter.unusedVariables false
set_option linter.unusedSectionVars false
set_option maxRecDepth 100000
set_option maxHeartbeats 4000000
namespace Go.Proofs.YtgikjeaipmeclaaGreatDoor
open Go.Ev
theorem fine6:Y4 2 60 8 64=true:=by kernel_rfl
def g6 (m:Nat) (k j:Nat):Bool:=if k=0 then decide (j<4+m) || decide (60≤j) else decide (j<4) || decide (60≤j)
def D6 (m:Nat):List O3:=[(56 - m,7,1),(56,8,0)]
def Al6 (V:Nat→List Nat) (m:Nat):Prop:=Bmp 2 60 8 64 V (D6 m) (g6 m)
def blk6 (m:Nat):Nat:=70+m
def mt6 (z:Nat):Prop:=z=1∨z=66∨z=126
def nk6 (near:Nat):Prop:=near<4096∧Lv 2 60 8 64 near=0
def S6:List Nat:=1 :: 66 :: (List.range 48).map (70 + ·)
theorem Z1i {m:Nat} (h:m<48):blk6 m∈S6:=by
 unfold S6 blk6
 simp only[List.mem_cons,List.mem_map,List.mem_range]
 exact .inr (.inr ⟨m,h,rfl⟩)
theorem v6_0:V4 66=Zea (g6 0 0):=by kernel_rfl
theorem v6_1:V4 126=Zea (g6 0 1):=by kernel_rfl
theorem Z32:Des V4 2 60 8 (D6 0):=⟨by kernel_rfl,by kernel_rfl,rfl⟩
theorem Zob (m:Nat) (h:m≤56):(D6 m).all (Za2 56 8)=true:=by
 unfold D6 Za2
 simp only[List.all_cons,List.all_nil,Fa (show 56 - m≤56 by omega)]
 rfl
theorem Zkw:Al6 V4 0:=by
 refine⟨fun k hk=>?_,Z32,Zob 0 (by omega)⟩
 match k,hk with
 | 0,_=>exact v6_0
 | 1,_=>exact v6_1
 | k+2,hk=>omega
theorem Zqj {D:List O3} (Dl:D.length=2) (Dm:D.all (Za2 56 8)=true):goodD (Zej D) 2 60 8=true∧Gv (Zej D) 2 0=D:=by
 obtain⟨_,h1,h2⟩:=Zr0 fine6 Dl Dm
 unfold Zsa at h1 h2
 rw[Oz] at h1 h2
 rw[Nq] at h1
 rw[Lc] at h2
 exact⟨h1,h2⟩
theorem Zw9 (m:Nat):Wz (g6 m 0) (4+m)=g6 (m+1) 0:=by
 funext j
 unfold Wz g6
 rw[if_pos rfl,if_pos rfl,Bool.eq_iff_iff]
 simp only[Bool.or_eq_true,decide_eq_true_eq]
 omega
theorem Zt7 {V:Nat→List Nat} {m:Nat} (A:Al6 V m) (h:m<56):Al6 (Zdq 60 64 V (D6 m) (g6 m) 0 (4+m) (56 - m) 7 1) (m+1):=by
 have gd:=Zqj (D:=D6 (m+1)) rfl (Zob (m+1) (by omega))
 unfold Zdq
 show Al6 (Gn (Gn V 66 (Zea (Wz (g6 m 0) (4+m)))) 1 (Zej [(56 - m - 1,7,1),(56,8,0)])) (m+1)
 have d1:([(56 - m - 1,7,1),(56,8,0)]:List O3)=D6 (m+1):=by unfold D6; rw[show 56 - (m+1)=56 - m - 1 by omega]
 rw[d1,Zw9]
 refine⟨fun k hk=>?_,⟨?_,?_,rfl⟩,Zob (m+1) (by omega)⟩
 ·match k,hk with
  | 0,_ =>
   show Gn (Gn V 66 (Zea (g6 (m+1) 0))) 1 (Zej (D6 (m+1))) 66=_
   rw[Oo (by omega),Em]
  | 1,_ =>
   show Gn (Gn V 66 (Zea (g6 (m+1) 0))) 1 (Zej (D6 (m+1))) 126=_
   rw[Oo (by omega),Oo (by omega)]
   exact A.bm 1 (by omega)
  | k+2,hk=>omega
 ·rw[Em]; exact gd.1
 ·rw[Em]; exact gd.2
section
variable (Hh:Hearts K Tryz.prog)
include Hh
variable {n q:Nat} {cr:Cr} {md:Int}
theorem alc6:Alc n q 2 60 8 64 cr md S6 Al6 blk6 48 mt6 nk6:=by
 refine⟨fun {V h T m near} M A mc nr hT=>?_,fun {V m z x} A hz=>?_,fun m mc=>?_,fun m m' _ _ e=>?_,?_⟩
 ·have F:FreeG 60 8 (D6 m) (g6 m) 0 (4+m) (56 - m) 7 1:=by
   refine⟨by omega,by omega,fun j h1 h2=>?_,?_,rfl,by omega⟩
   ·unfold g6; rw[if_pos rfl,decide_eq_true h2]; rfl
   ·unfold g6; rw[if_pos rfl,decide_eq_false (by omega),decide_eq_false (by omega)]; rfl
  obtain⟨h',c,M',k'⟩:=Z1n Hh fine6 M A (near:=near) (by have:=nr.1; omega) (j:=0) (k:=0) (by omega) (fun i hi=>by omega) (by rw[nr.2]) F ⟨by decide,hT 1 (.inl rfl)⟩ ⟨by decide,hT 66 (.inr (.inl rfl))⟩
  refine⟨h',_,?_,M',k',Zt7 A (by omega),fun z hz=>?_⟩
  ·have e:2+64+0 * 60+(4+m)=blk6 m:=by unfold blk6; omega
   rw[e] at c
   exact c
  ·unfold Zdq
   rw[Oo (fun w=>hz (.inl w)),Oo (fun w=>hz (.inr (.inl w)))]
 ·obtain⟨bm,⟨d1,d2,d3⟩,my⟩:=A
  refine⟨fun k hk=>?_,⟨?_,?_,d3⟩,my⟩
  ·have:=bm k hk
   match k,hk with
   | 0,_=>rw[Oo (fun w=>hz (.inr (.inl w.symm)))]; exact this
   | 1,_=>rw[Oo (fun w=>hz (.inr (.inr w.symm)))]; exact this
   | k+2,hk=>omega
  ·rw[Oo (fun w=>hz (.inl w.symm))]; exact d1
  ·rw[Oo (fun w=>hz (.inl w.symm))]; exact d2
 ·have e:blk6 m=70+m:=rfl
  refine⟨Zan (Yk fine6) (by omega) (by omega),by omega,by omega,?_,Z1i mc⟩
  unfold mt6
  omega
 ·have e1:blk6 m=70+m:=rfl
  have e2:blk6 m'=70+m':=rfl
  omega
 ·refine⟨⟨by omega,rfl⟩,fun m mc=>?_⟩
  have e:blk6 m=70+m:=rfl
  refine⟨by omega,?_⟩
  unfold Lv Us
  rw[if_neg (by omega),if_neg (by omega),if_neg (by omega),if_neg (by omega)]
  show (blk6 m - 2 - 64) / 60=0
  omega
end
noncomputable def q6 (p:List Nat):Code:=piece p (Uq Tryz.f6)
theorem rs6:Tryz.f6.results.toList=[.tmp 4]:=rfl
attribute [go_sem] rs6
def byN (b k:Nat):List Nat:=(List.range k).map fun j=>1+(b+j % 256) % 256 % 250
theorem Zc6 (b k:Nat):(byN b k).length=k:=by simp [byN]
theorem Zv2 (b k:Nat):byN b (k+1)=byN b k++[1+(b+k % 256) % 256 % 250]:=by simp [byN,List.range_succ]
theorem Zph (h:Go.Ev.H) (c:C):Y2 h 1 (some ti5) (some [(0,.c c)])=some (.w (.c (.slice h.next 0 1 1)),h.new (.row 1 [[c]] false)):=rfl
theorem Z2j {b:Nat} {h:Go.Ev.H} {c:C} {R:List Nat} (s:SlY b h c R) (bh:b≤h.next) (hl:R.length≤4000) (x:Nat):∃ c' h',Uj (h.new (.row 1 [[.int .u8 ((x % 256:Nat):Int)]] false)) (some ti5) c (.slice h.next 0 1 1)=some (.w (.c c'),h')∧SlY b h' c' (R++[x])∧h.next≤h'.next∧∀ p,p<b→h'.get p=h.get p:=by
 have s1:ti5.size=1:=rfl
 have b1:ti5.bytes=1:=rfl
 rcases s with ⟨rfl,rfl⟩|⟨p,p1,rfl,pp,p3,p4⟩
 ·refine⟨_,_,append_nil (M:=bsE [x]) s1 (by rw[H.Zi,if_pos rfl]; rfl) (by simp [bsE]) (by rw[b1]; show 1 * 1≤_; omega) (by show 1≤_; omega),.inr ⟨h.next+1,by simp,rfl,?_,by omega,?_⟩,?_,fun p hp=>?_⟩
  ·rw[Uw (by simp only[H.Zg]<;>omega)]; rfl
  ·simp only[H.Zg]; omega
  ·simp only[H.Zg]; omega
  ·rw[Yg (by simp only[H.Zg]; omega),Yg (by omega)]
 ·have ml:=V7 R
  have ap:=Nz (h:=h.new (.row 1 (bsE [x]) false)) (te:=ti5) (n:=p) (n':=h.next) (L:=bsE R) (M:=bsE [x]) (ro:=false) s1 (by rw[H.Zi,if_neg (by omega)]; exact pp) (by rw[H.Zi,if_pos rfl]) (by simp [bsE]) (by rw[b1,ml]; show (R.length+1) * 1≤_; omega) (by rw[ml]; show R.length+1≤_; omega)
  rw[ml] at ap
  refine⟨_,_,ap,.inr ⟨h.next+1,by simp,by rw[List.length_append]; rfl,?_,by omega,?_⟩,?_,fun q hq=>?_⟩
  ·rw[Uw (by simp only[H.Zg,H.Zr]<;>omega)]; simp only[bsE,List.map_append]
  ·simp only[H.Zg,H.Zr]; omega
  ·simp only[H.Zg,H.Zr]; omega
  ·rw[Yg (by simp only[H.Zg,H.Zr]; omega),Rm (by omega),Yg (by omega)]
theorem Z4f {b:Nat} {h:Go.Ev.H} {c:C} {R:List Nat} (s:SlY b h c R):Yy K 32 c=true:=by
 rcases s with ⟨_,rfl⟩|⟨p,_,rfl,_⟩
 ·unfold Yy; rw[show K.types.get 32=some ti32 by kernel_rfl]; rfl
 ·exact X9 ..
def Row1 (b:Nat) (h:Go.Ev.H) (c:C) (w:List Nat):Prop:=(w=[]∧c=.snil)∨∃ p,0<w.length∧c=.slice p 0 w.length 1∧h.get p=some (.row 1 (bsE w) false)∧p<b
section
variable (Hh:Hearts K Tryz.prog)
include Hh
theorem Z02 {b N base:Nat} (hb:b<256) (N1:N≤1000):∀ (k i:Nat) (ts:Zu) (h:Go.Ev.H),i+k=N→base≤h.next→Zk ts 0=.w (.c (.int .i64 (N:Int)))→Zk ts 1=.w (.c (.int .u8 (b:Int)))→Zk ts 6=.w (.c (.int .i64 (i:Int)))→(∃ c,Zk ts 5=.w (.c c)∧SlY base h c (byN b i)) →
  Goes K Tryz.prog 26 none (q6 [1,1,0,1,2]) [] ts h fun x ds' ts' h'=>x=.exit 0∧ds'=[]∧h.next≤h'.next∧(∀ p,p<base→h'.get p=h.get p)∧∃ c,Zk ts' 5=.w (.c c)∧SlY base h' c (byN b N):=by
 intro k
 induction k with
 | zero =>
  intro i ts h hi bh t0 t1 t6 st
  obtain rfl:i=N:=by omega
  obtain⟨c,t5,s⟩:=st
  have d1:decide ((i:Int)<(i:Int))=false:=decide_eq_false (by omega)
  iterate 3 (first|apply Goes.seq|apply Goes.loop)
  refine Goes.ops2 fits Hh Zc (by
   iterate 7 (refine Zz (by simp (maxSteps:=9^6) +decide (disch:=first|omega|(simp only[lens]<;>omega)|decide) only [go_sem,Zb,Za,simprocAttr,t0,t6,d1]<;>rfl) ?_)
   exact Z0) ?_
  iterate 2 (first|apply Goes.exit|(apply Goes.Zm; · simp (maxSteps:=9^6) +decide (disch:=first|omega|(simp only[lens]<;>omega)|decide) only [go_sem,Zb,Za,simprocAttr,t0,t6,d1]<;>rfl))
  refine⟨rfl,rfl,Nat.le_refl _,fun _ _=>rfl,c,?_,s⟩
  simp (maxSteps:=9^6) +decide (disch:=first|omega|(simp only[lens]<;>omega)|decide) only [go_sem,Zb,Za,simprocAttr,t5]
 | succ k ih =>
  intro i ts h hi bh t0 t1 t6 st
  obtain⟨c,t5,s⟩:=st
  have d1:decide ((i:Int)<(N:Int))=true:=decide_eq_true (by omega)
  have d2:decide ((i:Int)<1100)=true:=decide_eq_true (by omega)
  have w1:Yp .u8 (i:Int)=.int .u8 ((i % 256:Nat):Int):=by rw[Zjm]; rfl
  have w2:Yp .u8 ((b:Int)+((i % 256:Nat):Int))=.int .u8 (((b+i % 256) % 256:Nat):Int):=by rw[Zjm]; rfl
  have w3:Bo .u8 (((b+i % 256) % 256:Nat):Int) 250=some (.int .u8 (((b+i % 256) % 256 % 250:Nat):Int)):=U3 (b:=250) (by omega)
  obtain⟨X,hX⟩:∃ X,1+(b+i % 256) % 256 % 250=X:=⟨_,rfl⟩
  have w4:Yp .u8 (1+(((b+i % 256) % 256 % 250:Nat):Int))=.int .u8 ((X % 256:Nat):Int):=by
   rw[Zaj (by omega)]
   congr 1
   omega
  obtain⟨c',h',ap,s',nn,kk⟩:=Z2j s bh (by rw[Zc6]; omega) X
  have sf:=Z4f s
  obtain⟨E1,he1⟩:∃ e:Nat,i % 256=e:=⟨_,rfl⟩
  rw[he1] at w1 w2 w3 w4
  obtain⟨E2,he2⟩:∃ e:Nat,(b+E1) % 256=e:=⟨_,rfl⟩
  rw[he2] at w2 w3 w4
  obtain⟨E3,he3⟩:∃ e:Nat,E2 % 250=e:=⟨_,rfl⟩
  rw[he3] at w3 w4
  obtain⟨E4,he4⟩:∃ e:Nat,X % 256=e:=⟨_,rfl⟩
  rw[he4] at w4 ap
  iterate 3 (first|apply Goes.seq|apply Goes.loop)
  refine Goes.ops2 fits Hh Zc (by
   iterate 7 (refine Zz (by simp (maxSteps:=9^6) +decide (disch:=first|omega|(simp only[lens]<;>omega)|decide) only [go_sem,Zb,Za,simprocAttr,t0,t1,t5,t6,d1,d2,w1,w2,w3,w4,Zph,ap,sf,X9,Zh]<;>rfl) ?_)
   exact Z0) ?_
  iterate 4 (first|apply Goes.seq|apply Goes.skip|apply Goes.block|(apply Goes.Zm; · simp (maxSteps:=9^6) +decide (disch:=first|omega|(simp only[lens]<;>omega)|decide) only [go_sem,Zb,Za,simprocAttr,t0,t1,t5,t6,d1,d2,w1,w2,w3,w4,Zph,ap,sf,X9,Zh]<;>rfl))
  refine Goes.ops2 fits Hh Zc (by
   iterate 10 (refine Zz (by simp (maxSteps:=9^6) +decide (disch:=first|omega|(simp only[lens]<;>omega)|decide) only [go_sem,Zb,Za,simprocAttr,t0,t1,t5,t6,d1,d2,w1,w2,w3,w4,Zph,ap,sf,X9,Zh]<;>rfl) ?_)
   exact Z0) ?_
  (apply Goes.ops2 fits Hh Zc; · simp (maxSteps:=9^6) +decide (disch:=first|omega|(simp only[lens]<;>omega)|decide) only [go_sem,Zb,Za,simprocAttr,t0,t1,t5,t6,d1,d2,w1,w2,w3,w4,Zph,ap,sf,X9,Zh]<;>rfl)
  show Goes K Tryz.prog 26 none (q6 [1,1,0,1,2]) _ _ _ _
  refine (ih (i+1) _ h' (by omega) (by omega) ?_ ?_ ?_ ⟨c',?_,by rw[Zv2,hX]; exact s'⟩).mono ?_
  ·simp (maxSteps:=9^6) +decide (disch:=first|omega|(simp only[lens]<;>omega)|decide) only [go_sem,Zb,Za,simprocAttr,t0]
  ·simp (maxSteps:=9^6) +decide (disch:=first|omega|(simp only[lens]<;>omega)|decide) only [go_sem,Zb,Za,simprocAttr,t1]
  ·simp (maxSteps:=9^6) +decide (disch:=first|omega|(simp only[lens]<;>omega)|decide) only [go_sem,Zb,Za,simprocAttr]<;>rfl
  ·simp (maxSteps:=9^6) +decide (disch:=first|omega|(simp only[lens]<;>omega)|decide) only [go_sem,Zb,Za,simprocAttr]
  rintro x ds' ts' h2 ⟨e1,e2,e3,e4,e5⟩
  exact⟨e1,e2,by omega,fun p hp=>(e4 p hp).trans (kk p hp),e5⟩
theorem Zt1 (h:Go.Ev.H) {by_ N:Nat} (hb:by_<256) (N1:N≤1000):∃ c h',Ze K Tryz.prog 6 [.c (.int .i64 (N:Int)),.c (.int .u8 (by_:Int))] h (.w (.c c)) h'∧Row1 h'.next h' c (byN by_ N)∧h.next≤h'.next∧(∀ m,m<h.next→h'.get m=h.get m)∧∀ p o l z,c=.slice p o l z→h.next≤p:=by
 obtain⟨v,h',cc,c,rfl,s,nn,kk⟩:∃ v h',Ze K Tryz.prog 6 [.c (.int .i64 (N:Int)),.c (.int .u8 (by_:Int))] h v h'∧∃ c,v=.w (.c c)∧SlY h.next h' c (byN by_ N)∧h.next≤h'.next∧∀ m,m<h.next→h'.get m=h.get m:=by
  refine Ze.Yi fits Hh (by kernel_rfl) (by kernel_rfl) (by kernel_rfl) (show Tryz.f6.body=some _ from rfl) rfl ?_
  iterate 8 (first|apply Goes.seq|apply Goes.block|(apply Goes.ops2 fits Hh Zc; · simp (maxSteps:=9^6) +decide (disch:=first|omega|(simp only[lens]<;>omega)|decide) only [go_sem,Zb,Za,simprocAttr]<;>rfl))
  refine (Z02 Hh (base:=h.next) hb N1 N 0 _ h (by omega) (Nat.le_refl _) ?_ ?_ ?_ ⟨.snil,?_,.inl ⟨rfl,rfl⟩⟩).mono ?_
  ·simp (maxSteps:=9^6) +decide (disch:=first|omega|(simp only[lens]<;>omega)|decide) only [go_sem,Zb,Za,simprocAttr]<;>rfl
  ·simp (maxSteps:=9^6) +decide (disch:=first|omega|(simp only[lens]<;>omega)|decide) only [go_sem,Zb,Za,simprocAttr]<;>rfl
  ·simp (maxSteps:=9^6) +decide (disch:=first|omega|(simp only[lens]<;>omega)|decide) only [go_sem,Zb,Za,simprocAttr]<;>rfl
  ·simp (maxSteps:=9^6) +decide (disch:=first|omega|(simp only[lens]<;>omega)|decide) only [go_sem,Zb,Za,simprocAttr]<;>rfl
  rintro x ds' ts' h' ⟨rfl,rfl,n1,k1,c,t5,s⟩
  iterate 3 (first|apply Goes.seq|apply Goes.ret|(apply Goes.ops2 fits Hh Zc; · simp (maxSteps:=9^6) +decide (disch:=first|omega|(simp only[lens]<;>omega)|decide) only [go_sem,Zb,Za,simprocAttr,t5]<;>rfl))
  exact⟨_,_,(by simp (maxSteps:=9^6) +decide (disch:=first|omega|(simp only[lens]<;>omega)|decide) only [go_sem,Zb,Za,simprocAttr,t5]<;>rfl),c,rfl,s,n1,k1⟩
 refine⟨c,h',cc,?_,nn,kk,fun p o l z e=>?_⟩
 ·rcases s with w|⟨p,a1,a2,a3,a4,a5⟩
  ·exact .inl w
  ·exact .inr ⟨p,a1,a2,a3,a5⟩
 ·rcases s with ⟨_,w⟩|⟨p',_,w,_,w2,_⟩
  ·rw[w] at e; cases e
  ·rw[w] at e; cases e; exact w2
end
noncomputable def q5 (p:List Nat):Code:=piece p (Uq Tryz.f5)
theorem rs5:Tryz.f5.results.toList=[.cell 2 29,.tmp 3]:=rfl
attribute [go_sem] rs5
theorem HE.cell {n q a b c e w:Nat} {cr:Cr} {md:Int} {S T:List Nat} {V:Nat→List Nat} {h h2:Go.Ev.H} {y:List (List C)} {ro:Bool} (M:HE n q a b c e cr md S T V h) (hw:h.get w=some (.row 4 y ro)) (w0:0<w) (wn:w<n) (nx:h.next≤h2.next) (k:∀ m,m<q+9→m≠w→h2.get m=h.get m):HE n q a b c e cr md S T V h2:=by
 obtain⟨d,d1,d2,kn,ld,lt,lc,lm,L,f1,f2,f3,f4,f5,f6,f7,f8,f9,f10,f11,M⟩:=M
 refine⟨d,d1,d2,kn,ld,lt,lc,lm,L,f1,f2,f3,f4,f5,f6,f7,f8,f9,f10,f11,?_⟩
 obtain⟨f1,f2,f3,f4,l1,l2,f5,f6,f7,f8,f9,f10,f11,f12,f13,f14,f15,f16,f17,f18,f19,f20,f21⟩:=M
 have wd:d≠w:=fun e=>by
  rw[e,hw] at f8
  have:=(O.row.inj (Option.some.inj f8)).1
  omega
 have wq:d2≠w:=fun e=>by
  rw[e,hw] at f9
  have:=(O.row.inj (Option.some.inj f9)).1
  omega
 refine⟨?_,f2,f3,by omega,l1,l2,?_,?_,?_,?_,?_,?_,?_,?_,?_,?_,?_,?_,?_,?_,?_,?_,?_⟩
 all_goals (rw[k _ (by omega) (by omega)]; assumption)
def ino0:List C:=[.int .u8 0,.int .i64 0,.int .u32 0,.int .i64 0,.int .u32 0,.int .u32 0,.int .u32 0,.int .u32 0,.int .u32 0,.int .u32 0,.int .u32 0,.int .u32 0,.int .u32 0,.int .u32 0,.int .u32 0,.int .u32 0]
theorem Zmj:InoP ino0 (fun _=>0):=⟨rfl,fun i hi=>by
 match i,hi with
 | 0,_|1,_|2,_|3,_|4,_|5,_|6,_|7,_|8,_|9,_|10,_=>rfl
 | k+11,hk=>omega,fun i _=>(by omega:0<4294967296)⟩
theorem Xf {V:Nat→List Nat} {P:Nat→Nat} (z:∀ i,i<11→P i=0) {i:Nat} (hi:i<72):Je V P i=0:=by
 by_cases d:i<8
 ·rw[Gs d]; exact z i (by omega)
 ·rw[Od (by omega) hi,if_pos (z 8 (by omega))]
theorem FilS.new {blk:Nat→Nat} {V:Nat→List Nat} {P:Nat→Nat} {lo m i:Nat} (z:∀ i,i<11→P i=0) (hi:i≤36):FilS blk V P (fun _=>0) lo m i i :=
 ⟨⟨.inl (z 8 (by omega)),fun j hj=>.inl (Xf z hj),fun j _ hj _ h=>absurd (Xf z hj) h,fun j hj h=>absurd (Xf z hj) h⟩,⟨Nat.le_refl _,hi⟩,fun j a b=>absurd a (by omega),fun j hj _=>Xf z hj,fun _ _=>rfl⟩
theorem Zww (F:Nat→Nat) (off:Nat) (w:List Nat) (ba d k:Nat):wrF (wrF F off w ba d) (off+d) w (ba+d) k=wrF F off w ba (d+k):=by
 funext p
 unfold wrF
 by_cases a:off+d≤p∧p<off+d+k
 ·rw[if_pos a,if_pos (by omega)]
  congr 1
  omega
 ·rw[if_neg a]
  by_cases b:off≤p∧p<off+d
  ·rw[if_pos b,if_pos (by omega)]
  ·rw[if_neg b,if_neg (by omega)]
def Zrq (R:List Nat):List UInt8:=R.map fun n=>UInt8.ofNat (n % 256)
theorem Zk7:∀ R:List Nat,bytesOf (bsE R)=some (Zrq R)
 | []=>rfl
 | n :: R=>by
  show (match bytesOf (bsE R) with|none=>none|some r=>some (UInt8.ofNat (n % 256) :: r))=_
  rw[Zk7 R]
  rfl
theorem lfB (p:Nat):Yu K 75 (.c (.slice p 0 186 256))=true:=by kernel_rfl
theorem lfT:Yu K 49 (.c .snil)=true:=by kernel_rfl
section
variable (Hh:Hearts K Tryz.prog)
include Hh
theorem Zlt {mo:Nat} (mo1:mo<256) {h:Go.Ev.H} (hst:h.get 0=some Oh) (l0:0<h.next) :
  ∃ h' n q r d y,Ze K Tryz.prog 5 [.c (.int .u8 (mo:Int))] h (.tup [.g [.ptr (n+13) 0,.ptr r 0,.ptr d 0,.ptr y 0],.c (.bool true)]) h'∧HE n q 2 60 8 64 ⟨50,50⟩ (1+((mo % 3:Nat):Int)) S6 [] V4 h'∧h.next≤n∧∀ m,m<h.next→h'.get m=h.get m:=by
 have rm3:Bo .u8 (mo:Int) 3=some (.int .u8 ((mo % 3:Nat):Int)):=U3 (b:=3) (by omega)
 have k3:=Nat.mod_lt mo (show 0<3 by omega)
 obtain⟨k,hk⟩:∃ k,mo % 3=k:=⟨_,rfl⟩
 rw[hk] at rm3 k3 ⊢
 obtain⟨md,hmd⟩:∃ md:Int,1+(k:Int)=md:=⟨_,rfl⟩
 have m1:1≤md∧md≤3:=by omega
 have wmd:Yp .u8 (1+(k:Int))=.int .u8 md:=by rw[Zaj (by omega),hmd]
 rw[hmd]
 have rd6:∀ a b c d e f:C,Zb 6 [[a,b,c,d,e,f]] 0 6=some [a,b,c,d,e,f]:=fun _ _ _ _ _ _=>rfl
 obtain⟨v,h',cc,n,q,r,d,y,rfl,M',hn,kk⟩:∃ v h',Ze K Tryz.prog 5 [.c (.int .u8 (mo:Int))] h v h'∧∃ n q r d y,v=.tup [.g [.ptr (n+13) 0,.ptr r 0,.ptr d 0,.ptr y 0],.c (.bool true)]∧HE n q 2 60 8 64 ⟨50,50⟩ md S6 [] V4 h'∧h.next≤n∧∀ m,m<h.next→h'.get m=h.get m:=by
  refine Ze.Yi fits Hh (by kernel_rfl) (by kernel_rfl) (by kernel_rfl) (show Tryz.f5.body=some _ from rfl) rfl ?_
  iterate 3 (first|apply Goes.seq|(apply Goes.ops2 fits Hh Zc; · simp (maxSteps:=9^6) +decide (disch:=first|omega|(simp only[lens]<;>omega)|decide) only [go_sem,Za,simprocAttr,rm3,wmd,Zx,read1]<;>rfl))
  refine Goes.abs fun hA eA=>?_
  have nA:hA.next=h.next+1:=by rw[eA]; simp only[H.Zj,H.Zg]
  have kA:∀ m,m<h.next→hA.get m=h.get m:=fun m hm=>by rw[eA]; simp (disch:=first|omega|(simp only[lens]<;>omega)) only [go_sem]
  obtain⟨y2,y2l,a2⟩:∃ y:List C,y.length=4∧hA.get h.next=some (.row 4 [y] false):=⟨_,rfl,by rw[eA]; simp (maxSteps:=9^6) +decide (disch:=first|omega|(simp only[lens]<;>omega)|decide) only [go_sem,Za,simprocAttr]<;>rfl⟩
  clear eA
  obtain⟨hW,n,d,d1,d2',r,y,c1,MW,nW,kW⟩:=Zxr Hh m1.1 m1.2 (h:=hA) ((kA 0 l0).trans hst) (by omega) lfB lfT
  iterate 2 (first|apply Goes.seq|(apply Goes.ops2 fits Hh (Zt Zc c1); · simp (maxSteps:=9^6) +decide (disch:=first|omega|(simp only[lens]<;>omega)|decide) only [go_sem,Za,simprocAttr,Zy,rm3,wmd,Zx,read1]<;>rfl))
  refine Goes.abs fun hC eC=>?_
  have nC:hC.next=hW.next+1:=by rw[eC]; simp only[H.Zj,H.Zg]
  have kC:∀ m,m<hW.next→hC.get m=hW.get m:=fun m hm=>by rw[eC]; simp (disch:=first|omega|(simp only[lens]<;>omega)) only [go_sem]
  have pC:hC.get hW.next=some (.row 4 [[.ptr (n+13) 0,.ptr r 0,.ptr d 0,.ptr y 0]] false):=by rw[eC]; simp (maxSteps:=9^6) +decide (disch:=first|omega|(simp only[lens]<;>omega)|decide) only [go_sem,Za,simprocAttr]<;>rfl
  clear eC
  have wx:=MW.nx
  have MC:=MW.keep (h2:=hC) (by omega) (fun m hm=>kC m (by omega))
  have c2:=Zoq Hh (MC.beg fine6 (cr:=⟨50,50⟩) (s:=_) rfl (by decide))
  have HB:=MC.begun (S:=S6) (V:=V4) (cr:=⟨50,50⟩) (by decide) (fun z z1 _=>Z0v z z1)
  have kD:=fun m hm m1 m2=>Ow (h:=hC) (m:=m) MC.nx hm m1 m2 ⟨50,50⟩
  obtain⟨hD,eD⟩:∃ x,Zbd n hC ⟨50,50⟩=x:=⟨_,rfl⟩
  rw[eD] at c2 HB
  simp only[eD] at kD
  obtain⟨q,hq⟩:∃ q,hC.next=q:=⟨_,rfl⟩
  rw[hq] at HB
  have nD:=HB.nx
  have C2:=(kC h.next (by omega)).trans ((kW _ (by omega)).trans a2)
  have pD:=(kD hW.next (by omega) (by omega) (by omega)).trans pC
  have D2:=(kD h.next (by omega) (by omega) (by omega)).trans C2
  iterate 2 (first|apply Goes.ret|(apply Goes.drawn2 fits Hh (Zt Zc c2) (by kernel_rfl); · simp (maxSteps:=9^6) +decide (disch:=first|omega|(simp only[lens]<;>omega)|decide) only [go_sem,Za,simprocAttr,drG,Zy,rm3,wmd,pC,C2,D2,pD,y2l,Zdx,Zx,read1]<;>rfl))
  refine⟨_,_,(by simp (maxSteps:=9^6) +decide (disch:=first|omega|(simp only[lens]<;>omega)|decide) only [go_sem,Za,simprocAttr,y2l]<;>rfl),n,q,r,d,y,rfl,HB.cell D2 (by omega) (by omega) ?_ (fun m hm hne=>?_),by omega,fun m hm=>?_⟩
  ·simp only[H.Zj,H.Zg,H.Zr]<;>omega
  ·simp (disch:=first|omega|(simp only[lens]<;>omega)) only [go_sem]
  ·refine Eq.trans ?_ ((kD m (by omega) (by omega) (by omega)).trans ((kC m (by omega)).trans ((kW m (by omega)).trans (kA m hm)))); simp (disch:=first|omega|(simp only[lens]<;>omega)) only [go_sem]
 exact⟨h',n,q,r,d,y,cc,M',hn,kk⟩
variable {n q a b c e:Nat} {cr:Cr} {md:Int} {S T:List Nat} {V:Nat→List Nat} {h:Go.Ev.H}
theorem Zlq (f:Y4 a b c e=true) (m1:md≠0) (M:HE n q a b c e cr md S T V h) {x0:List C} {size off:Nat} (hs:O8 x0=some (size:Int)) (s16:size≤9216) (o36:off≤36 * 256) {pc:C} (hp:pc=.snil∨∃ mm ba,pc=.slice mm ba 0 1) :
  ∃ h',Ze K Tryz.prog 7 [.c (.ptr (n+13) 0),.g x0,.c (.int .i64 (off:Int)),.c pc] h (.tup [.g x0,.c (.int .i64 0)]) h'∧HE n q a b c e cr md S T V h'∧h.next≤h'.next∧∀ m,m<h.next→h'.get m=h.get m:=by
 obtain⟨nq,nx,n0⟩:=M.nx
 obtain⟨st,⟨kn,hst⟩,⟨dk,gl⟩,ht⟩:=M.cells
 unfold gdL gdD at gl
 have dm:(md != 0)=true:=Xx m1
 obtain⟨xl,rx⟩:=Jq hs
 have z0:decide ((0:Int)≤(size:Int))=true:=decide_eq_true (by omega)
 have z1:decide ((size:Int)≤16777216)=true:=decide_eq_true (by omega)
 have z2:decide ((0:Int)≤(off:Int))=true:=decide_eq_true (by omega)
 have z6:decide ((off:Int)≤16777216)=true:=decide_eq_true (by omega)
 have lfy:Yu K 32 (.c pc)=true:=by rcases hp with rfl|⟨mm,ba,rfl⟩<;>kernel_rfl
 have ln:∀ h,Ye K h 32 (.c pc)=some (.int .i64 0):=fun h=>by rcases hp with rfl|⟨mm,ba,rfl⟩<;>rfl
 clear hp
 obtain⟨v,h',cc,rfl,M',nn,kk⟩:∃ v h',Ze K Tryz.prog 7 [.c (.ptr (n+13) 0),.g x0,.c (.int .i64 (off:Int)),.c pc] h v h'∧v=.tup [.g x0,.c (.int .i64 0)]∧HE n q a b c e cr md S T V h'∧h.next≤h'.next∧∀ m,m<h.next→h'.get m=h.get m:=by
  refine Ze.Yi fits Hh (by kernel_rfl) (by kernel_rfl) (by kernel_rfl) (show Tryz.f7.body=some _ from rfl) rfl ?_
  apply Goes.seq
  refine Goes.ops2 fits Hh Zc (by
   iterate 5 (refine Zz (by simp (maxSteps:=9^6) +decide (disch:=first|omega|(simp only[lens]<;>omega)|decide) only [go_sem,Za,simprocAttr,f,Y7,hst,stG,gl,ht,txC,dm,xl,rx,z0,z1,z2,z6,lfy,ln,hs,Zx,Zh]<;>rfl) ?_)
   exact Z0) ?_
  iterate 2 (apply Goes.seq)
  refine Goes.ops2 fits Hh (Zf Zc (fun _ _ _ _=>Zhh Hh)) (by
   iterate 7 (refine Zz (by simp (maxSteps:=9^6) +decide (disch:=first|omega|(simp only[lens]<;>omega)|decide) only [go_sem,Za,simprocAttr,f,Y7,hst,stG,gl,ht,txC,dm,xl,rx,z0,z1,z2,z6,lfy,ln,hs,Zx,Zh]<;>rfl) ?_)
   exact Z0) ?_
  iterate 11 (first|apply Goes.seq|apply Goes.skip|apply Goes.ret|((first|apply Goes.Zm|apply Goes.ops2 fits Hh Zc); · simp (maxSteps:=9^6) +decide (disch:=first|omega|(simp only[lens]<;>omega)|decide) only [go_sem,Za,simprocAttr,f,Y7,hst,stG,gl,ht,txC,dm,xl,rx,z0,z1,z2,z6,lfy,ln,hs,Zx,Zh]<;>rfl))
  refine⟨_,_,(by simp (maxSteps:=9^6) +decide (disch:=first|omega|(simp only[lens]<;>omega)|decide) only [go_sem,Za,simprocAttr,Y7,xl]<;>rfl),rfl,M.keep ?_ fun m hm=>?_,?_,fun m hm=>?_⟩
  ·simp only[H.Zj,H.Zg,H.Zr]<;>omega
  ·simp (disch:=first|omega|(simp only[lens]<;>omega)) only [go_sem]
  ·simp only[H.Zj,H.Zg,H.Zr]<;>omega
  ·simp (disch:=first|omega|(simp only[lens]<;>omega)) only [go_sem]
 exact⟨h',cc,M',nn,kk⟩
end
end Go.Proofs.YtgikjeaipmeclaaGreatDoor
set_option maxRecDepth 100000
namespace Go.Proofs.YtgikjeaipmeclaaGreatDoor
open Go.Ev Go.ChangeShapes Go.WideShapes
theorem Bw (z:Int):Yp .u64 z=.int .u64 ((z % 18446744073709551616).toNat:Int):=by
 unfold Yp IntKind.wrap
 congr 1
 show (z % 18446744073709551616)=_
 have:=Int.emod_nonneg z (show (18446744073709551616:Int)≠0 by decide)
 omega
def Qn (A:List Int):List (List C):=A.map fun z=>[.int .i64 z]
theorem rdZ {A:List Int} {k:Nat} {z:Int} (h:A[k]? = some z):read1 1 (Qn A) k=some (.int .i64 z):=by
 have e:(Qn A)[k]? = some [.int .i64 z]:=by simp [Qn,h]
 have:=Bv (sz:=1) (i:=k) (j:=0) (by omega) e
 rw[Nat.mul_one,Nat.add_zero] at this
 exact this
def ArI (n:Nat) (h:Go.Ev.H) (c:C) (A:List Int):Prop:=(Yu K 22 (.c c)=true∧∀ h,Ye K h 22 (.c c)=some (.int .i64 (A.length:Nat)))∧(A=[]∨∃ p ro,p<n∧c=.slice p 0 A.length 1∧h.get p=some (.row 1 (Qn A) ro))
theorem ArI.keep {n:Nat} {h h':Go.Ev.H} {c:C} {A:List Int} (a:ArI n h c A) (k:∀ p,p<n→h'.get p=h.get p):ArI n h' c A :=
 ⟨a.1,a.2.imp id fun ⟨p,ro,h1,h2,h3⟩=>⟨p,ro,h1,h2,(k p h1).trans h3⟩⟩
def Zjb (W:World) (v:Value):Prop:=v=.slice none 0 0∨∃ b o sp len cap,v=.slice (some ⟨b,o,sp⟩) len cap∧len≤cap∧(cap=0∨sp=none∧∃ cl t fr,W.heap[b]? = some (.cells cl t fr)∧o+cap≤cl.size∧∀ i,i<cap→∃ B:Int,cl[o+i]? = some (.int .i64 B))
theorem open_ints {H:Type} {enc:TypeId × Value→H} {W:World} {base b0:Nat} {r:Reach} {v:Value} {d:DataW H} {p:List MemPlace} (hv:Value.okWide Tryz.prog W r b0 22 v) (h:DataW.Trod enc Tryz.prog W base (fun _=>true) true 22 v d p) (hb:base=0):∃ w:Value,v=w∧Zjb W w:=by
 subst hb
 refine⟨v,rfl,?_⟩
 obtain⟨sa,sl,sc,rfl⟩:=okWide_slice Tryz.underlying22 hv
 obtain⟨fuel,hf0⟩:=h
 have hf:DataW.trod enc Tryz.prog W 0 (fun _=>true) true fuel 22 [.slice sa sl sc]=_:=hf0
 rcases DataW.trod_slice Tryz.underlying22 hf with ⟨h0,_⟩|⟨⟨b,o,sp⟩,len,cap,elems,rest,n,rfl,h0,_,_,hl,_,hlen,hel,hsp,_⟩
 ·exact .inl (List.cons.inj h0).1
 have h1:=(List.cons.inj h0).1
 refine .inr ⟨b,o,sp,len,cap,h1,hl,?_⟩
 rcases Nat.eq_zero_or_pos cap with c0|c0
 ·exact .inl c0
 right
 have c2:Tryz.prog.cellsOf 3=1:=by kernel_rfl
 obtain⟨hrl,hr⟩:=hsp rfl
 rw[c2] at hel hr
 have each:∀ i,i<cap→∃ B:Int,W.cell? ((⟨b,o,sp⟩:Addr).add (i * 1))=some (.int .i64 B):=by
  intro i hi
  have key:∃ y,(W.cells? 0 ((⟨b,o,sp⟩:Addr).add (i * 1)) 1).bind (DataW.trod enc Tryz.prog W 0 (fun _=>true) true n 3)=some y:=by
   by_cases h1:i<len
   ·exact⟨_,(hel i h1).trans (List.getElem?_eq_getElem (by omega))⟩
   ·have:=hr (i - len) (by omega)
    rw[show len+(i - len)=i by omega] at this
    exact⟨_,this.trans (List.getElem?_eq_getElem (by omega))⟩
  obtain⟨y,hy⟩:=key
  obtain⟨cs',h1,h2⟩:=Option.bind_eq_some_iff.1 hy
  obtain⟨hl2,hc⟩:=Zrg h1
  match cs',hl2 with
  | [v0],_ =>
   obtain⟨B,e1,_,_⟩:=DataW.trod_int Tryz.underlying3 h2
   cases e1
   refine⟨B,?_⟩
   have:=hc 0 (by omega)
   rw[show ((⟨b,o,sp⟩:Addr).add (i * 1)).add 0=(⟨b,o,sp⟩:Addr).add (i * 1) by unfold Addr.add; split<;>simp_all] at this
   exact this
 obtain⟨B0,q0⟩:=each 0 c0
 have hspot:sp=none:=by simpa [Addr.add] using World.cell?_spot q0
 subst hspot
 refine⟨rfl,?_⟩
 have at':∀ i,(⟨b,o,none⟩:Addr).add (i * 1)=⟨b,o+i * 1,none⟩:=fun i=>Go.WideShapes.add_plain b o (i * 1)
 rw[at' 0] at q0
 unfold World.cell? at q0
 split at q0
 ·rename_i cl t fr hb
  have hb':W.heap[b]? = some (.cells cl t fr):=hb
  have cell:∀ k,W.cell? ⟨b,k,none⟩=cl[k]?:=fun k=>by
   unfold World.cell?
   rw[show W.heap[(⟨b,k,none⟩:Addr).block]? = some (.cells cl t fr) from hb']
   rfl
  have each':∀ i,i<cap→∃ B:Int,cl[o+i]? = some (.int .i64 B):=fun i hi=>by
   obtain⟨B,e1⟩:=each i hi
   rw[at',cell,Nat.mul_one] at e1
   exact⟨B,e1⟩
  refine⟨cl,t,fr,hb',?_,each'⟩
  obtain⟨B,e2⟩:=each' (cap - 1) (by omega)
  have:=(Array.getElem?_eq_some_iff.1 e2).1
  omega
 ·cases q0
def intOf (cl:Array Value) (o i:Nat):Int:=match cl[o+i]? with
 | some (.int .i64 B)=>B
 | _=>0
theorem Zjb.ari {W:World} {v:Value} (k:Nat) (ok:Zjb W v):∃ (c:C) (A:List Int) (a:Option (List Int)) (l:Go.Ev.Loc),(∀ ρ:Ren,ρ k=some l→Jc ρ (.c c) v)∧(∀ (ρ:Ren) A',a=some A'→Gp ρ W (.row 1 (Qn A') true) l)∧(Yu K 22 (.c c)=true∧∀ h,Ye K h 22 (.c c)=some (.int .i64 (A.length:Nat)))∧(A=[]∨c=.slice k 0 A.length 1∧a=some A):=by
 rcases ok with rfl|⟨bk,o,sp,len,cap,rfl,hlc,hc⟩
 ·exact⟨.snil,[],none,⟨0,0,0⟩,fun ρ _=>rfl,fun _ _ e=>(by cases e),⟨Zh7,fun _=>rfl⟩,.inl rfl⟩
 ·rcases hc with c0|⟨rfl,cl,t,fr,hb,hsz,each⟩
  ·subst c0
   obtain rfl:len=0:=by omega
   exact⟨.slice k 0 0 1,[],none,⟨0,0,0⟩,fun ρ e=>⟨⟨0,0,0⟩,_,_,e,rfl,.inl ⟨rfl,rfl⟩⟩,fun _ _ e=>(by cases e),⟨Wj ..,fun _=>rfl⟩,.inl rfl⟩
  ·have pl:((List.range len).map (intOf cl o)).length=len:=by rw[List.length_map,List.length_range]
   refine⟨.slice k 0 len 1,(List.range len).map (intOf cl o),some ((List.range len).map (intOf cl o)),⟨bk,o,cl.size⟩,fun ρ e=>⟨⟨bk,o,cl.size⟩,_,_,e,rfl,.inr ⟨rfl,hlc,by show o+0+cap * 1≤cl.size; omega⟩⟩,fun ρ A' e=>?_,⟨Wj ..,fun _=>by rw[pl]; rfl⟩,.inr ⟨by rw[pl],rfl⟩⟩
   cases e
   refine⟨cl,t,fr,hb,rfl,fun h=>(by cases h),fun p hp=>?_,fun i c hi=>?_⟩
   ·obtain⟨z,_,rfl⟩:=List.mem_map.1 hp
    rfl
   ·unfold read1 Qn at hi
    rw[Nat.div_one,Nat.mod_one,List.map_map,List.getElem?_map] at hi
    by_cases h1:i<len
    ·rw[List.getElem?_range h1] at hi
     obtain⟨B,e⟩:=each i (by omega)
     have ei:intOf cl o i=B:=by unfold intOf; rw[e]
     simp only[Option.map_some,Function.comp_apply,ei] at hi
     cases hi
     exact⟨_,e,rfl⟩
    ·rw[List.getElem?_eq_none (by rw[List.length_range]; omega)] at hi
     cases hi
noncomputable def Zvc (n:Nat) (a:Option (List Int)) (h:Go.Ev.H):Go.Ev.H:=match a with
 | none=>h
 | some A=>h.put n (.row 1 (Qn A) true)
theorem Zkd {n m:Nat} {a:Option (List Int)} {h:Go.Ev.H} {o:O} (e:(Zvc n a h).get m=some o):(m=n∧∃ A,a=some A∧o=.row 1 (Qn A) true)∨h.get m=some o:=by
 cases a with
 | none=>exact .inr e
 | some A =>
  have e':(h.put n (.row 1 (Qn A) true)).get m=some o:=e
  rw[H.get_put] at e'
  split at e'
  ·rename_i q; cases e'; exact .inl ⟨q,A,rfl,rfl⟩
  ·exact .inr e'
theorem Zja {n m:Nat} (a:Option (List Int)) (h:Go.Ev.H) (ne:m≠n):(Zvc n a h).get m=h.get m:=by
 cases a with
 | none=>rfl
 | some A=>exact Zp ne
theorem Vr (n:Nat) (a:Option (List Int)) (h:Go.Ev.H):(Zvc n a h).next=h.next:=by
 cases a with
 | none=>rfl
 | some A=>exact H.Zj ..
noncomputable def Sg (a b:Option (List Int)):Go.Ev.H:=Zvc 2 b (Zvc 1 a ⟨Rx.m,3⟩)
def Zg9 (la lb:Go.Ev.Loc):Go.Ev.Ren:=fun n=>if n=2 then some lb else if n=1 then some la else if n=0 then some ⟨0,0,16⟩ else none
theorem Zg3 (la lb:Go.Ev.Loc):Dom (Zg9 la lb) 3:=fun n hn=>by
 unfold Zg9
 rw[if_neg (by omega),if_neg (by omega),if_neg (by omega)]
theorem Zgw {a b:Option (List Int)} {n:Nat} {o:O} (e:(Sg a b).get n=some o):(n=2∧∃ A,b=some A∧o=.row 1 (Qn A) true)∨(n=1∧∃ A,a=some A∧o=.row 1 (Qn A) true)∨Rx.get n=some o:=by
 rcases Zkd e with q|q
 ·exact .inl q
 ·rcases Zkd q with q|q
  ·exact .inr (.inl q)
  ·exact .inr (.inr q)
theorem Qs {a b:Option (List Int)} {n:Nat} {o:O} (e:(Sg a b).get n=some o):o.ro=true:=by
 rcases Zgw e with ⟨_,A,_,rfl⟩|⟨_,A,_,rfl⟩|q
 ·rfl
 ·rfl
 ·rw[(Db q).2]; rfl
theorem Zj6 {W:World} {cs:Array Value} {t:TypeId} {fr:Nat × Nat} (hb:W.heap[0]? = some (.cells cs t fr)) (hcs:cs.toList=steps16.map (Value.int .u32)) {a b:Option (List Int)} {la lb:Go.Ev.Loc} (ha:∀ (ρ:Ren) A,a=some A→Gp ρ W (.row 1 (Qn A) true) la) (hb2:∀ (ρ:Ren) A,b=some A→Gp ρ W (.row 1 (Qn A) true) lb):Rep K (Zg9 la lb) (Sg a b) W:=by
 have R:=Zb1 gl hb hcs
 refine⟨fun g n h=>?_,fun n o h=>?_,fun n n' o o' l l' hne h h' _ _ hq=>?_⟩
 ·obtain⟨rfl,rfl⟩:=Ti gl h
  exact⟨16,rfl⟩
 ·rcases Zgw h with ⟨rfl,A,e,rfl⟩|⟨rfl,A,e,rfl⟩|q
  ·exact⟨lb,rfl,hb2 _ A e⟩
  ·exact⟨la,rfl,ha _ A e⟩
  ·obtain⟨l0,hl0,hor⟩:=R.obj n o q
   obtain⟨rfl,rfl⟩:=Db q
   refine⟨l0,hl0,?_⟩
   have hs:(O.row 16 [steps16.map (C.int .u32)] true).simple=true:=rfl
   exact (Vm (σ:=fun _=>0) (ρ:=Zg9 la lb) (w:=W) hs l0).2 ((Vm (σ:=fun _=>0) (ρ:=M0 0) (w:=W) hs l0).1 hor)
 ·rw[Qs h,Qs h'] at hq
  rcases hq with q|q<;>cases q
theorem wf_u8 {n:Int} (h:(Lit.int .u8 n).wf=true):0≤n∧n<256:=by
 simp [Lit.wf,IntKind.min,IntKind.max,IntKind.signed,IntKind.bits] at h
 omega
end Go.Proofs.YtgikjeaipmeclaaGreatDoor
