/- Descriptors written and read, as the walks ask it. -/
import Derived.Test.YtgikjeaipmeclaaGreatDoorSup3
import Derived.Test.YtgikjeaipmeclaaGreatDoorSup4
import Derived.KernelRfl
import Derived.Test.YtgikjeaipmeclaaGreatDoorMpd
set_option linter.unusedSimpArgs false
set_option linter.unusedVariables false
set_option linter.unusedSectionVars false
set_option maxRecDepth 100000
namespace Go.Proofs.YtgikjeaipmeclaaGreatDoor
open Go.Ev
def Zsw:List C→Option O3
 | [.int .i64 x,.int .i64 y,.int .i64 z]=>(J3 x).bind fun x=>(J3 y).bind fun y=>(J3 z).bind fun z=>some (x,y,z)
 | _=>none
def Zto:List (List C)→Option (List O3)
 | []=>some []
 | r :: L=>(Zsw r).bind fun d=>(Zto L).bind fun D=>some (d :: D)
theorem Zwe (d:O3):Zsw (Bq d)=some d:=by simp only[Zsw,Bq,Zdn,Option.bind_some]
theorem Zhg:∀ D:List O3,Zto (D.map Bq)=some D
 | []=>rfl
 | d :: D=>by simp only[List.map_cons,Zto,Zwe,Option.bind_some,Zhg D]
theorem Zr3 {r:List C} {d:O3} (e:Zsw r=some d):r=Bq d:=by
 unfold Zsw at e
 split at e
 ·obtain⟨x,hx,e⟩:=Zl e
  obtain⟨y,hy,e⟩:=Zl e
  obtain⟨z,hz,e⟩:=Zl e
  cases e
  rw[Yb hx,Yb hy,Yb hz]
  rfl
 ·cases e
theorem Zg6:∀ {L:List (List C)} {D:List O3},Zto L=some D→L=D.map Bq
 | [],D,e=>by cases e; rfl
 | r :: L,D,e=>by
  obtain⟨d,hd,e⟩:=Zl (show (Zsw r).bind _=some D from e)
  obtain⟨D',hD,e⟩:=Zl e
  cases e
  rw[List.map_cons,←Zr3 hd,←Zg6 hD]
def Za2 (dt ino:Nat) (d:O3):Bool:=Nat.ble d.1 dt&&Nat.ble d.2.1 ino&&Nat.ble (d.2.2+d.2.1) ino
theorem Xe {dt ino:Nat} {d:O3} (e:Za2 dt ino d=true):d.1≤dt∧d.2.1≤ino∧d.2.2+d.2.1≤ino:=by
 simp only[Za2,Bool.and_eq_true] at e
 exact⟨Nat.le_of_ble_eq_true e.1.1,Nat.le_of_ble_eq_true e.1.2,Nat.le_of_ble_eq_true e.2⟩
noncomputable def Z01:Kn1:=fun args h=>match args with
 | [.g [.int .i64 a,.int .i64 b,.int .i64 c,.int .i64 d],.c (.slice n 0 len 3)]=>X5 a b c d fun a b c _=>match h.get n with
  | some (.row s L _)=>(Zto L).bind fun D=>Yr (Nat.beq s 3&&Nat.beq len a&&Nat.beq D.length a&&D.all (Za2 (b - 2 - c / 4) c)&&D9 (h.get 0)) (some (.tup [.g (pgL (Bl (Ep D 0 Gf))),.c (.int .i64 0)],h))
  | _=>none
 | _=>none
def Fx (ns:List Nat):Nat→Nat→Bool
 | 0,_=>true
 | k+1,i=>Lm ns (i+6) 2&&Fx ns k (i+8)
theorem Zka {ns:List Nat}:∀ {a i:Nat},Fx ns a i=true→∀ k,k<a→Lm ns (8 * k+i+6) 2=true
 | 0,_,_,k,hk=>by omega
 | a+1,i,e,k,hk=>by
  have e':(Lm ns (i+6) 2&&Fx ns a (i+8))=true:=e
  rw[Bool.and_eq_true] at e'
  cases k with
  | zero=>rw[Nat.mul_zero,Nat.zero_add]; exact e'.1
  | succ k=>have:=Zka e'.2 k (by omega); rwa [show 8 * (k+1)+i+6=8 * k+(i+8)+6 by omega]
def goodD (ns:List Nat) (a b c:Nat):Bool:=Nat.beq (Uh ns 252) (Ty ns)&&Lm ns (8 * a) (252 - 8 * a)&&Fx ns a 0&&(Gv ns a 0).all (Za2 (b - 2 - c / 4) c)
theorem Lc (ns:List Nat):∀ a i,Gv (ns.map (· % 256)) a i=Gv ns a i
 | 0,_=>rfl
 | a+1,i=>by simp only[Gv,getD,Tn,Lc ns a]
theorem Zg4 (ns:List Nat):∀ a i,Fx (ns.map (· % 256)) a i=Fx ns a i
 | 0,_=>rfl
 | a+1,i=>by simp only[Fx,Qw,Zg4 ns a]
theorem Nq (ns:List Nat) (a b c:Nat):goodD (ns.map (· % 256)) a b c=goodD ns a b c:=by simp only[goodD,N7,Vw,Qw,Zg4,Lc]
noncomputable def Z0q:Kn1:=fun args h=>match args with
 | [.g [.int .i64 a,.int .i64 b,.int .i64 c,.int .i64 d],.g x]=>X5 a b c d fun a b c _=>Yr (Zki x&&Nat.beq x.length 256&&goodD (unN x) a b c&&D9 (h.get 0)) (some (.tup [.c (.slice h.next 0 a 3),.c (.int .i64 0)],h.new (.row 3 ((Gv (unN x) a 0).map Bq) false)))
 | _=>none
attribute [go_sem] Z01 Z0q Zhg Lc Nq
section
variable (Hh:Hearts K Tryz.prog)
include Hh
theorem Zyd {args:List W} {h h':Go.Ev.H} {v:V} (e:Z01 args h=some (v,h')):Ze K Tryz.prog 189 args h v h':=by
 unfold Z01 at e
 split at e
 ·obtain⟨a,b,c,d,rfl,rfl,rfl,rfl,f,e⟩:=Na e
  split at e
  ·rename_i s L ro heq
   obtain⟨D,hD,e⟩:=Zl e
   obtain⟨q,e⟩:=Zq.1 e
   cases e
   simp only[Bool.and_eq_true] at q
   obtain⟨⟨⟨⟨q1,q2⟩,q3⟩,q4⟩,q5⟩:=q
   obtain rfl:=Nat.eq_of_beq_eq_true q1
   obtain rfl:=Nat.eq_of_beq_eq_true q2
   rw[Zg6 hD] at heq
   exact Zr5 Hh f (Ej q5) heq (Nat.eq_of_beq_eq_true q3) fun d hd=>Xe (List.all_eq_true.1 q4 d hd)
  ·cases e
 ·cases e
theorem Zxd {args:List W} {h h':Go.Ev.H} {v:V} (e:Z0q args h=some (v,h')):Ze K Tryz.prog 183 args h v h':=by
 unfold Z0q at e
 split at e
 ·obtain⟨a,b,c,d,rfl,rfl,rfl,rfl,f,e⟩:=Na e
  obtain⟨q,e⟩:=Zq.1 e
  cases e
  simp only[Bool.and_eq_true] at q
  obtain⟨⟨⟨q1,q2⟩,q3⟩,q5⟩:=q
  obtain⟨ns,rfl,hl⟩:=Zc8 q1
  have q2:=Nat.eq_of_beq_eq_true q2
  rw[q2] at hl
  rw[Oz,Nq] at q3
  rw[Oz,Lc]
  simp only[goodD,Bool.and_eq_true] at q3
  obtain⟨⟨⟨r1,r2⟩,r3⟩,r4⟩:=q3
  exact Zrn Hh f (Ej q5) hl (Nat.eq_of_beq_eq_true r1) r2 (fun k hk=>by have:=Zka r3 k hk; rwa [Nat.add_zero] at this) fun d hd=>Xe (List.all_eq_true.1 r4 d hd)
 ·cases e
end
theorem Zd0:∀ (D:List O3) (i:Nat) (x:List Nat),(Ep D i x).length=x.length
 | [],_,_=>rfl
 | d :: D,i,x=>by rw[Ep,Zd0 D,Zie]
def w2 (v:Nat):Nat:=v % 256+256 * (v / 256 % 256)
theorem Zwa {v:Nat} (h:v<65536):w2 v=v:=by unfold w2; omega
theorem at_set {ns:List Nat} {i v:Nat} (h:i<ns.length):atN (ns.set i v) i=v % 256:=by
 unfold atN
 rw[List.getD_eq_getElem?_getD,List.getElem?_set_self h]
 rfl
theorem Tz {ns:List Nat} {i j v:Nat} (h:i≠j):atN (ns.set i v) j=atN ns j:=by
 unfold atN
 rw[List.getD_eq_getElem?_getD,List.getD_eq_getElem?_getD,List.getElem?_set_ne h]
theorem Zdu {ns:List Nat} {i v:Nat} (h:i+4≤ns.length) (hv:v<4294967296):Uh (Ub ns i v) i=v:=by
 unfold Uh Ub
 have h0:atN ((((ns.set i v).set (i+1) (v / 256)).set (i+2) (v / 256 / 256)).set (i+3) (v / 256 / 256 / 256)) i=v % 256:=by
  rw[Tz (by omega),Tz (by omega),Tz (by omega),at_set (by omega)]
 have h1:atN ((((ns.set i v).set (i+1) (v / 256)).set (i+2) (v / 256 / 256)).set (i+3) (v / 256 / 256 / 256)) (i+1)=v / 256 % 256:=by
  rw[Tz (by omega),Tz (by omega),at_set (by rw[List.length_set]; omega)]
 have h2:atN ((((ns.set i v).set (i+1) (v / 256)).set (i+2) (v / 256 / 256)).set (i+3) (v / 256 / 256 / 256)) (i+2)=v / 256 / 256 % 256:=by
  rw[Tz (by omega),at_set (by rw[List.length_set,List.length_set]; omega)]
 have h3:atN ((((ns.set i v).set (i+1) (v / 256)).set (i+2) (v / 256 / 256)).set (i+3) (v / 256 / 256 / 256)) (i+3)=v / 256 / 256 / 256 % 256:=by
  rw[at_set (by rw[List.length_set,List.length_set,List.length_set]; omega)]
 rw[h0,h1,h2,h3]
 omega
theorem take_set {ns:List Nat} {i v k:Nat} (h:k≤i):(ns.set i v).take k=ns.take k:=by
 refine List.ext_getElem? fun j=>?_
 rw[List.getElem?_take,List.getElem?_take]
 split
 ·rw[List.getElem?_set_ne (by omega)]
 ·rfl
theorem Ztm (ns:List Nat):Ty (Bl ns)=Ty ns:=by
 have:(Bl ns).take 252=ns.take 252:=by
  unfold Bl Ub
  rw[take_set (by omega),take_set (by omega),take_set (by omega),take_set (by omega)]
 unfold Ty
 rw[this]
theorem Zj7 (ns:List Nat) {i n:Nat} (h:i+n≤252):Lm (Bl ns) i n=Lm ns i n:=by
 have:((Bl ns).drop i).take n=(ns.drop i).take n:=by
  rw[List.take_drop,List.take_drop]
  congr 1
  unfold Bl Ub
  rw[take_set (by omega),take_set (by omega),take_set (by omega),take_set (by omega)]
 unfold Lm
 rw[this]
theorem Zo8 (ns:List Nat) {i:Nat} (h:i<252):atN (Bl ns) i=atN ns i:=by
 unfold Bl Ub
 rw[Tz (by omega),Tz (by omega),Tz (by omega),Tz (by omega)]
theorem Zb0 (ns:List Nat) {i:Nat} (h:i<250):Gj (Bl ns) i=Gj ns i:=by
 unfold Gj
 rw[Zo8 _ (by omega),Zo8 _ (by omega)]
theorem Zbn (ns:List Nat):∀ (a i:Nat),i+8 * a≤240→Gv (Bl ns) a i=Gv ns a i
 | 0,_,_=>rfl
 | a+1,i,h=>by
  rw[Gv,Gv,Zbn ns a (i+8) (by omega)]
  unfold getD
  rw[Zb0 _ (by omega),Zb0 _ (by omega),Zb0 _ (by omega)]
theorem Zgr (ns:List Nat):∀ (a i:Nat),i+8 * a≤240→Fx (Bl ns) a i=Fx ns a i
 | 0,_,_=>rfl
 | a+1,i,h=>by rw[Fx,Fx,Zgr ns a (i+8) (by omega),Zj7 _ (by omega)]
def wD (d:O3):O3:=(w2 d.1,w2 d.2.1,w2 d.2.2)
theorem Z3m {d:O3} (h:d.1<65536∧d.2.1<65536∧d.2.2<65536):wD d=d:=by
 unfold wD
 rw[Zwa h.1,Zwa h.2.1,Zwa h.2.2]
theorem tell1 (q x y:Nat):Gv (Ep [(q,x,y)] 0 Gf) 1 0=[wD (q,x,y)]∧Fx (Ep [(q,x,y)] 0 Gf) 1 0=true∧Lm (Ep [(q,x,y)] 0 Gf) 8 244=true:=⟨by kernel_rfl,by kernel_rfl,by kernel_rfl⟩
theorem tell2 (q x y q1 x1 y1:Nat):Gv (Ep [(q,x,y),(q1,x1,y1)] 0 Gf) 2 0=[wD (q,x,y),wD (q1,x1,y1)]∧Fx (Ep [(q,x,y),(q1,x1,y1)] 0 Gf) 2 0=true∧Lm (Ep [(q,x,y),(q1,x1,y1)] 0 Gf) 16 236=true:=⟨by kernel_rfl,by kernel_rfl,by kernel_rfl⟩
theorem tell3 (q x y q1 x1 y1 q2 x2 y2:Nat):Gv (Ep [(q,x,y),(q1,x1,y1),(q2,x2,y2)] 0 Gf) 3 0=[wD (q,x,y),wD (q1,x1,y1),wD (q2,x2,y2)]∧Fx (Ep [(q,x,y),(q1,x1,y1),(q2,x2,y2)] 0 Gf) 3 0=true∧Lm (Ep [(q,x,y),(q1,x1,y1),(q2,x2,y2)] 0 Gf) 24 228=true:=⟨by kernel_rfl,by kernel_rfl,by kernel_rfl⟩
theorem tell4 (q x y q1 x1 y1 q2 x2 y2 q3 x3 y3:Nat):Gv (Ep [(q,x,y),(q1,x1,y1),(q2,x2,y2),(q3,x3,y3)] 0 Gf) 4 0=[wD (q,x,y),wD (q1,x1,y1),wD (q2,x2,y2),wD (q3,x3,y3)]∧Fx (Ep [(q,x,y),(q1,x1,y1),(q2,x2,y2),(q3,x3,y3)] 0 Gf) 4 0=true∧Lm (Ep [(q,x,y),(q1,x1,y1),(q2,x2,y2),(q3,x3,y3)] 0 Gf) 32 220=true:=⟨by kernel_rfl,by kernel_rfl,by kernel_rfl⟩
def Zsa (D:List O3):List C:=pgL (Bl (Ep D 0 Gf))
theorem Zt4 {a m x:Nat} {D:List O3} (a1:1≤a) (a4:a≤4) (Dl:D.length=a) (Dm:D.all (Za2 m x)=true) (mm:m<65536) (xx:x<65536):Gv (Ep D 0 Gf) a 0=D∧Fx (Ep D 0 Gf) a 0=true∧Lm (Ep D 0 Gf) (8 * a) (252 - 8 * a)=true:=by
 have b:∀ d∈D,wD d=d:=fun d hd=>by
  obtain⟨h1,h2,h3⟩:=Xe (List.all_eq_true.1 Dm d hd)
  exact Z3m ⟨by omega,by omega,by omega⟩
 match D,Dl with
 | [],Dl=>simp at Dl; omega
 | [(q,u,v)],Dl =>
  obtain rfl:a=1:=by simpa using Dl.symm
  have:=tell1 q u v
  rw[b _ (by simp)] at this
  exact this
 | [(q,u,v),(q1,u1,v1)],Dl =>
  obtain rfl:a=2:=by simpa using Dl.symm
  have:=tell2 q u v q1 u1 v1
  rw[b _ (by simp),b (q1,u1,v1) (by simp)] at this
  exact this
 | [(q,u,v),(q1,u1,v1),(q2,u2,v2)],Dl =>
  obtain rfl:a=3:=by simpa using Dl.symm
  have:=tell3 q u v q1 u1 v1 q2 u2 v2
  rw[b _ (by simp),b (q1,u1,v1) (by simp),b (q2,u2,v2) (by simp)] at this
  exact this
 | [(q,u,v),(q1,u1,v1),(q2,u2,v2),(q3,u3,v3)],Dl =>
  obtain rfl:a=4:=by simpa using Dl.symm
  have:=tell4 q u v q1 u1 v1 q2 u2 v2 q3 u3 v3
  rw[b _ (by simp),b (q1,u1,v1) (by simp),b (q2,u2,v2) (by simp),b (q3,u3,v3) (by simp)] at this
  exact this
 | _ :: _ :: _ :: _ :: _ :: _,Dl=>simp only[List.length_cons] at Dl; omega
theorem Zr0 {a b c d:Nat} (f:Y4 a b c d=true) {D:List O3} (Dl:D.length=a) (Dm:D.all (Za2 (b - 2 - c / 4) c)=true):Zki (Zsa D)=true∧goodD (unN (Zsa D)) a b c=true∧Gv (unN (Zsa D)) a 0=D:=by
 obtain⟨g1,g2,g3,g4,g5,g6,g7,g8,g9,g10,g11⟩:=Yk f
 obtain⟨t1,t2,t3⟩:=Zt4 g1 g2 Dl Dm (by omega) (by omega)
 refine⟨Za5 _,?_,?_⟩
 ·unfold Zsa
  rw[Oz,Nq]
  have q1:Uh (Bl (Ep D 0 Gf)) 252=Ty (Bl (Ep D 0 Gf)):=by
   rw[Ztm]
   exact Zdu (by rw[Zd0,Zia]; omega) (Zus _)
  unfold goodD
  rw[q1,Nat.beq_refl,Zj7 _ (by omega),t3,Zgr _ _ _ (by omega),t2,Zbn _ _ _ (by omega),t1,Dm]
  rfl
 ·unfold Zsa
  rw[Oz,Lc,Zbn _ _ _ (by omega)]
  exact t1
end Go.Proofs.YtgikjeaipmeclaaGreatDoor
set_option maxRecDepth 100000
set_option maxHeartbeats 4000000
namespace Go.Proofs.YtgikjeaipmeclaaGreatDoor
open Go.Ev
theorem Zpr {ns:List Nat} {i j v:Nat} (h:j+4≤i∨i+4≤j):Uh (Ub ns i v) j=Uh ns j:=by
 unfold Uh Ub
 simp (discharger:=omega) only [Tz]
theorem Zj2 (j:Nat) (h:j+4≤256):Uh zer0 j=0:=by
 have a0:∀ k,atN zer0 k=0:=fun k=>by
  unfold atN zer0
  rw[List.getD_eq_getElem?_getD,List.getElem?_replicate]
  split<;>rfl
 unfold Uh
 rw[a0,a0,a0,a0]
theorem Zcv {i:Nat} (h:i<8):Yq i=(i,[]):=if_pos h
theorem Zct {i:Nat} (h:8≤i) (h2:i<72):Yq i=(8,[i - 8]):=by
 unfold Yq
 rw[if_neg (by omega),if_pos h2]
theorem Gs {V:Nat→List Nat} {P:Nat→Nat} {i:Nat} (h:i<8):Je V P i=P i:=by
 unfold Je
 rw[Zcv h]
 rfl
theorem Od {V:Nat→List Nat} {P:Nat→Nat} {i:Nat} (h:8≤i) (h2:i<72):Je V P i=if P 8=0 then 0 else Uh (V (P 8)) (4 * (i - 8)):=by
 unfold Je
 rw[Zct h h2]
 rfl
structure FI (blk:Nat→Nat) (V:Nat→List Nat) (P:Nat→Nat) (lo m:Nat):Prop where
 i8:P 8=0∨∃ k,lo≤k∧k<m∧P 8=blk k
 bl:∀ i,i<72→Je V P i=0∨∃ k,lo≤k∧k<m∧Je V P i=blk k
 dj:∀ i j,i<72→j<72→Je V P i≠0→Je V P i=Je V P j→i=j
 d8:∀ i,i<72→Je V P i≠0→Je V P i≠P 8
theorem FI.step {blk:Nat→Nat} {V V':Nat→List Nat} {P P':Nat→Nat} {lo m m' cap i k1:Nat} (F:FI blk V P lo m) (inj:∀ m m',m<cap→m'<cap→blk m=blk m'→m=m') (mc:m'≤cap) (lm:lo≤m) (mm:m≤m') (hP:P' 8=P 8∨∃ k,m≤k∧k<m'∧P' 8=blk k) (hj:∀ j,j<72→j≠i→Je V' P' j=Je V P j) (k1m:m≤k1) (k1l:k1<m') (hi:Je V' P' i=blk k1) (h8:blk k1≠P' 8):FI blk V' P' lo m':=by
 obtain⟨i8,bl,dj,d8⟩:=F
 have old:∀ j,j<72→j≠i→Je V' P' j≠0→Je V' P' j≠blk k1:=fun j h1 h2 h3 e=>by
  rw[hj j h1 h2] at h3 e
  rcases bl j h1 with w|⟨k,a1,a2,a3⟩
  ·exact h3 w
  ·have:=inj k k1 (by omega) (by omega) (a3.symm.trans e)
   omega
 refine⟨?_,fun j h1=>?_,fun j l h1 h2 h3 e=>?_,fun j h1 h2=>?_⟩
 ·rcases hP with w|⟨k,a1,a2,a3⟩
  ·rw[w]
   rcases i8 with w2|⟨k,a1,a2,a3⟩
   ·exact .inl w2
   ·exact .inr ⟨k,a1,by omega,a3⟩
  ·exact .inr ⟨k,by omega,a2,a3⟩
 ·by_cases q:j=i
  ·subst q
   exact .inr ⟨k1,by omega,k1l,hi⟩
  ·rw[hj j h1 q]
   rcases bl j h1 with w|⟨k,a1,a2,a3⟩
   ·exact .inl w
   ·exact .inr ⟨k,a1,by omega,a3⟩
 ·by_cases q:j=i
  ·subst q
   by_cases q2:l=j
   ·exact q2.symm
   ·exact absurd (e.symm.trans hi) (old l h2 q2 (by rw[←e]; exact h3))
  ·by_cases q2:l=i
   ·subst q2
    exact absurd (e.trans hi) (old j h1 q h3)
   ·rw[hj j h1 q] at h3 e
    rw[hj l h2 q2] at e
    exact dj j l h1 h2 h3 e
 ·by_cases q:j=i
  ·subst q
   rw[hi]
   exact h8
  ·rw[hj j h1 q] at h2 ⊢
   rcases hP with w|⟨k,a1,a2,a3⟩
   ·rw[w]; exact d8 j h1 h2
   ·rcases bl j h1 with w|⟨k',b1,b2,b3⟩
    ·exact absurd w h2
    ·rw[b3,a3]
     intro e
     have:=inj k' k (by omega) (by omega) e
     omega
def Zbe (P:Nat→Nat) (k v:Nat):Nat→Nat:=fun j=>if j=k then v else P j
theorem InoP.set {x:List C} {P:Nat→Nat} (X:InoP x P) {k v:Nat} (hk:k<11) (hv:v<4294967296):InoP (x.set (4+k) (.int .u32 (v:Nat))) (Zbe P k v):=by
 obtain⟨xl,pt,pb⟩:=X
 refine⟨by rw[List.length_set]; exact xl,fun i hi=>?_,fun i hi=>?_⟩
 ·unfold Zbe
  by_cases e:i=k
  ·subst e
   rw[if_pos rfl,List.getElem?_set_self (by omega)]
  ·rw[if_neg e,List.getElem?_set_ne (by omega)]
   exact pt i hi
 ·unfold Zbe
  split
  ·exact hv
  ·exact pb i hi
theorem Zzw {V V':Nat→List Nat} {P:Nat→Nat} {i G:Nat} (hi:i<8) (h8:P 8≠0→V' (P 8)=V (P 8)):Je V' (Zbe P i G) i=G∧∀ j,j<72→j≠i→Je V' (Zbe P i G) j=Je V P j:=by
 have p8:Zbe P i G 8=P 8:=if_neg (by omega)
 refine⟨?_,fun j hj hne=>?_⟩
 ·rw[Gs hi]; exact if_pos rfl
 ·by_cases q:j<8
  ·rw[Gs q,Gs q]; exact if_neg hne
  ·rw[Od (by omega) hj,Od (by omega) hj,p8]
   by_cases z:P 8=0
   ·rw[if_pos z,if_pos z]
   ·rw[if_neg z,if_neg z,h8 z]
theorem Zxc {V V':Nat→List Nat} {P:Nat→Nat} {i G:Nat} (h8:8≤i) (h72:i<72) (p8:P 8≠0) (vl:(V (P 8)).length=256) (hG:G<4294967296) (hV:V' (P 8)=Ub (V (P 8)) (4 * (i - 8)) G):Je V' P i=G∧∀ j,j<72→j≠i→Je V' P j=Je V P j:=by
 refine⟨?_,fun j hj hne=>?_⟩
 ·rw[Od h8 h72,if_neg p8,hV,Zdu (by omega) hG]
 ·by_cases q:j<8
  ·rw[Gs q,Gs q]
  ·rw[Od (by omega) hj,Od (by omega) hj,if_neg p8,if_neg p8,hV,Zpr (by omega)]
theorem Zqx {V V':Nat→List Nat} {P:Nat→Nat} {i G I:Nat} (h8:8≤i) (h72:i<72) (p8:P 8=0) (i0:I≠0) (hG:G<4294967296) (hV:V' I=Ub zer0 (4 * (i - 8)) G):Je V' (Zbe P 8 I) i=G∧∀ j,j<72→j≠i→Je V' (Zbe P 8 I) j=Je V P j:=by
 have e8:Zbe P 8 I 8=I:=if_pos rfl
 refine⟨?_,fun j hj hne=>?_⟩
 ·rw[Od h8 h72,e8,if_neg i0,hV,Zdu (by rw[Ea]; omega) hG]
 ·by_cases q:j<8
  ·rw[Gs q,Gs q]; exact if_neg (by omega)
  ·rw[Od (by omega) hj,Od (by omega) hj,e8,if_neg i0,if_pos p8,hV,Zpr (by omega),Zj2 _ (by omega)]
structure EnsR (blk:Nat→Nat) (mt:Nat→Prop) (V:Nat→List Nat) (P:Nat→Nat) (lo m i:Nat) (V':Nat→List Nat) (P':Nat→Nat) (m' bi:Nat) (fr:Bool):Prop where
 fi:FI blk V' P' lo m'
 at_:Je V' P' i=bi
 nz:bi≠0
 oth:∀ j,j<72→j≠i→Je V' P' j=Je V P j
 keep:∀ z,¬ mt z→z≠P' 8→(∀ k,m≤k→k<m'→z≠blk k)→V' z=V z
 mm:m≤m'
 m2:m'≤m+2
 old:fr=false→V'=V∧P'=P∧m'=m
 new:fr=true→Je V P i=0∧∃ k,m≤k∧k<m'∧bi=blk k
 p8:P' 8=P 8∨P 8=0∧∃ k,m≤k∧k<m'∧P' 8=blk k
section
variable (Hh:Hearts K Tryz.prog)
include Hh
variable {n q a b c e:Nat} {cr:Cr} {md:Int} {S T:List Nat} {V:Nat→List Nat} {h:Go.Ev.H} {Al:(Nat→List Nat)→Nat→Prop} {blk:Nat→Nat} {cap:Nat} {mt nk:Nat→Prop} {m lo:Nat}
theorem Z17 (f:Y4 a b c e=true) (m0:md≠0) (A:Alc n q a b c e cr md S Al blk cap mt nk) (M:HE n q a b c e cr md S T V h) (al:Al V m) (lm:lo≤m) (mc:m+2≤cap) (hT:∀ z,mt z→z ∉ T) (bT:∀ k,m≤k→k<cap→blk k ∉ T) (b32:∀ k,k<cap→blk k<4096) {x:List C} {P:Nat→Nat} (X:InoP x P) (F:FI blk V P lo m) (hI:P 8≠0→P 8 ∉ T) {i:Nat} (hi:i<36) {near:Nat} (nr:nk near) :
  ∃ h' x' P' bi fr m',Ze K Tryz.prog 35 [.c (.ptr (n+13) 0),.g x,.c (.int .i64 (i:Int)),.c (.int .i64 (near:Int))] h (.tup [.g x',.c (.int .i64 (bi:Nat)),.c (.bool fr),.c (.int .i64 0)]) h'∧Kp n q h h'∧InoP x' P'∧(∀ j,j<4∨15≤j→x'[j]? = x[j]?)∧∃ V',HE n q a b c e cr md S T V' h'∧Al V' m'∧EnsR blk mt V P lo m i V' P' m' bi fr:=by
 obtain⟨o1,o2,o3,o4,o5⟩:=A.ours m (by omega)
 have cells:∀ (k:Nat) (v:C),k<11→∀ j,j<4∨15≤j→(x.set (4+k) v)[j]? = x[j]?:=fun k v hk j hj=>List.getElem?_set_ne (by omega)
 have i8:P 8≠0→∃ k,lo≤k∧k<m∧P 8=blk k:=fun z=>F.i8.resolve_left z
 have ne8:∀ k,m≤k→k<cap→P 8≠0→P 8≠blk k:=fun k h1 h2 z e=>by
  obtain⟨k',b1,b2,b3⟩:=i8 z
  have:=A.inj k' k (by omega) (by omega) (b3.symm.trans e)
  omega
 have nmt8:P 8≠0→¬ mt (P 8):=fun z=>by
  obtain⟨k',b1,b2,b3⟩:=i8 z
  rw[b3]
  exact (A.ours k' (by omega)).2.2.2.1
 by_cases d:i<8
 ·have wd:=Zcv d
  by_cases z:P i=0
  ·have EB:=Zz2 Hh f m0 A M al (by omega) hT (bT m (Nat.le_refl _) (by omega)) (b32 m (by omega)) X hi nr (r1:=blk m) (r2:=true) (R:=fun V'=>Al V' (m+1)∧∀ z,¬ mt z→z≠blk m→V' z=V z)
   rw[wd] at EB
   obtain⟨h',cc,kp,V',M',al',v'⟩:=EB z (fun h1 s V1 M1 al1 v1 _ sl sb=>Zak Hh M1 (fun h2 p4 p11 M2 n2 k2 a4 a11 b4 b11=>by
    obtain rfl:s=.snil:=by
     rcases sl with ⟨_,rfl⟩|⟨p,p1,_⟩
     ·rfl
     ·exact absurd p1 (by simp)
    exact⟨h2,Zk2 Hh _ _,Kp.refl ..,V1,M2,al1,v1⟩))
   obtain⟨e1,e2⟩:=Zzw (V:=V) (V':=V') (P:=P) (G:=blk m) d (fun w=>v' _ (nmt8 w) (ne8 m (Nat.le_refl _) (by omega) w))
   have p8:Zbe P i (blk m) 8=P 8:=if_neg (by omega)
   refine⟨h',_,Zbe P i (blk m),blk m,true,m+1,cc,kp,X.set (by omega) (by have:=b32 m (by omega); omega),cells i _ (by omega),V',M',al',⟨F.step A.inj (by omega) lm (by omega) (.inl p8) e2 (Nat.le_refl m) (by omega) e1 (fun w=>?_),e1,by omega,e2,fun y h1 h2 h3=>v' y h1 (h3 m (Nat.le_refl _) (by omega)),by omega,by omega,fun w=>(by cases w),fun _=>⟨by rw[Gs d]; exact z,m,Nat.le_refl _,by omega,rfl⟩,.inl p8⟩⟩
   rw[p8] at w
   by_cases z8:P 8=0
   ·omega
   ·exact ne8 m (Nat.le_refl _) (by omega) z8 w.symm
  ·have EA:=Zvb Hh f m0 M X hi (near:Int) (r1:=P i) (r2:=false) (R:=fun V'=>V'=V)
   rw[wd] at EA
   obtain⟨h',cc,kp,V',M',rfl⟩:=EA z (fun h1 s M1 sl sb=>Zak Hh M1 (fun h2 p4 p11 M2 n2 k2 a4 a11 b4 b11=>by
    obtain rfl:s=.snil:=by
     rcases sl with ⟨_,rfl⟩|⟨p,p1,_⟩
     ·rfl
     ·exact absurd p1 (by simp)
    exact⟨h2,Zk2 Hh _ _,Kp.refl ..,V,M2,rfl⟩))
   exact⟨h',x,P,P i,false,m,cc,kp,X,fun _ _=>rfl,V',M',al,⟨F,Gs d,z,fun _ _ _=>rfl,fun _ _ _ _=>rfl,Nat.le_refl _,by omega,fun _=>⟨rfl,rfl,rfl⟩,fun w=>(by cases w),.inl rfl⟩⟩
 ·have wi:=Zct (i:=i) (by omega) (by omega)
  have one:∀ {h:Go.Ev.H} {s:C},SlI h s [i - 8]→∃ p,s=.slice p 0 1 1∧h.get p=some (.row 1 (rwI [i - 8]) false):=fun sl=>by
   rcases sl with ⟨w,_⟩|⟨p,_,e1,e2⟩
   ·cases w
   ·exact⟨p,e1,e2⟩
  by_cases z8:P 8=0
  ·obtain⟨u1,u2,u3,u4,u5⟩:=A.ours (m+1) (by omega)
   have EB:=Zz2 Hh f m0 A M al (by omega) hT (bT m (Nat.le_refl _) (by omega)) (b32 m (by omega)) X hi nr (r1:=blk (m+1)) (r2:=true) (R:=fun V'=>∃ V1 W:Nat→List Nat,(∀ z,¬ mt z→z≠blk m→V1 z=V z)∧(∀ z,¬ mt z→z≠blk (m+1)→W z=V1 z)∧V'=Gn W (blk m) (Ub zer0 (4 * (i - 8)) (blk (m+1)))∧Al V' (m+2))
   rw[wi] at EB
   have nem:blk m≠blk (m+1):=fun w=>by have:=A.inj m (m+1) (by omega) (by omega) w; omega
   obtain⟨h',cc,kp,V',M',V1,W,v1,w1,rfl,al'⟩:=EB z8 (fun h1 s V1 M1 al1 v1 z1 sl sb=>Zak Hh M1 (fun h2 p4 p11 M2 n2 k2 a4 a11 b4 b11=>by
    obtain⟨p,rfl,hp⟩:=one sl
    have bp:=sb _ _ _ _ rfl
    have zz:=z1 (by simp)
    have SN:=Zo6 Hh f A M2 al1 (by omega) hT (bT (m+1) (by omega) (by omega)) (b0:=blk m) (w:=i - 8) o1 o2 (A.near.2 m (by omega)) o4 ⟨o5,bT m (Nat.le_refl _) (by omega)⟩ nem (by omega) (by rw[zz]; exact Zj2 _ (by omega)) true a4 a11 (L:=[i - 8]) (o:=0) (k:=0) ((k2 p bp.2).trans hp) rfl b4 b11 ⟨bp.1,by omega⟩ (by omega) (b32 (m+1) (by omega)) (r1:=blk (m+1)) (r2:=true) (Q:=fun h3=>Kp n q h2 h3∧∃ V',HE n q a b c e cr md S T V' h3∧∃ V1 W:Nat→List Nat,(∀ z,¬ mt z→z≠blk m→V1 z=V z)∧(∀ z,¬ mt z→z≠blk (m+1)→W z=V1 z)∧V'=Gn W (blk m) (Ub zer0 (4 * (i - 8)) (blk (m+1)))∧Al V' (m+2))
    rw[zz] at SN
    exact SN (fun h3 W M3 al3 v3 _ k3=>⟨h3,Zjt Hh _ _ _ _,Nat.le_refl _,k3,_,M3,V1,W,v1,v3,rfl,al3⟩)))
   obtain⟨e1,e2⟩:=Zqx (V:=V) (V':=Gn W (blk m) (Ub zer0 (4 * (i - 8)) (blk (m+1)))) (P:=P) (i:=i) (G:=blk (m+1)) (I:=blk m) (by omega) (by omega) z8 (by omega) (by have:=b32 (m+1) (by omega); omega) (Em ..)
   have p8:Zbe P 8 (blk m) 8=blk m:=if_pos rfl
   exact⟨h',_,Zbe P 8 (blk m),blk (m+1),true,m+2,cc,kp,X.set (by omega) (by have:=b32 m (by omega); omega),cells 8 _ (by omega),_,M',al',⟨F.step A.inj (by omega) lm (by omega) (.inr ⟨m,Nat.le_refl _,by omega,p8⟩) e2 (show m≤m+1 by omega) (by omega) e1 (fun w=>nem (p8 ▸ w).symm),e1,by omega,e2,fun y h1 h2 h3=>by
    rw[Oo (h3 m (Nat.le_refl _) (by omega)),w1 y h1 (h3 (m+1) (by omega) (by omega)),v1 y h1 (h3 m (Nat.le_refl _) (by omega))],by omega,by omega,fun w=>(by cases w),fun _=>⟨by rw[Od (by omega) (by omega),if_pos z8],m+1,by omega,by omega,rfl⟩,.inr ⟨z8,m,Nat.le_refl _,by omega,p8⟩⟩⟩
  ·obtain⟨k0,k1,k2,k3⟩:=i8 z8
   obtain⟨q1,q2,q3,q4,q5⟩:=A.ours k0 (by omega)
   rw[←k3] at q1 q2 q3 q4 q5
   have vl:=M.len q1 q2
   by_cases z:Uh (V (P 8)) (4 * (i - 8))=0
   ·have EA:=Zvb Hh f m0 M X hi (near:Int) (r1:=blk m) (r2:=true) (R:=fun V'=>∃ W:Nat→List Nat,(∀ z,¬ mt z→z≠blk m→W z=V z)∧V'=Gn W (P 8) (Ub (V (P 8)) (4 * (i - 8)) (blk m))∧Al V' (m+1))
    rw[wi] at EA
    have ne0:=ne8 m (Nat.le_refl _) (by omega) z8
    obtain⟨h',cc,kp,V',M',W,w1,rfl,al'⟩:=EA z8 (fun h1 s M1 sl sb=>Zak Hh M1 (fun h2 p4 p11 M2 n2 kk2 a4 a11 b4 b11=>by
     obtain⟨p,rfl,hp⟩:=one sl
     have bp:=sb _ _ _ _ rfl
     exact Zo6 Hh f A M2 al (by omega) hT (bT m (Nat.le_refl _) (by omega)) (b0:=P 8) (w:=i - 8) q1 q2 (by rw[k3]; exact A.near.2 k0 (by omega)) q4 ⟨q5,hI z8⟩ ne0 (by omega) z false a4 a11 (L:=[i - 8]) (o:=0) (k:=0) ((kk2 p bp.2).trans hp) rfl b4 b11 ⟨bp.1,by omega⟩ (by omega) (b32 m (by omega)) (r1:=blk m) (r2:=true) (Q:=fun h3=>Kp n q h2 h3∧∃ V',HE n q a b c e cr md S T V' h3∧∃ W:Nat→List Nat,(∀ z,¬ mt z→z≠blk m→W z=V z)∧V'=Gn W (P 8) (Ub (V (P 8)) (4 * (i - 8)) (blk m))∧Al V' (m+1)) (fun h3 W M3 al3 v3 _ k3=>⟨h3,Zjt Hh _ _ _ _,Nat.le_refl _,k3,_,M3,W,v3,rfl,al3⟩)))
    obtain⟨e1,e2⟩:=Zxc (V:=V) (V':=Gn W (P 8) (Ub (V (P 8)) (4 * (i - 8)) (blk m))) (P:=P) (i:=i) (G:=blk m) (by omega) (by omega) z8 vl (by have:=b32 m (by omega); omega) (Em ..)
    exact⟨h',x,P,blk m,true,m+1,cc,kp,X,fun _ _=>rfl,_,M',al',⟨F.step A.inj (by omega) lm (by omega) (.inl rfl) e2 (Nat.le_refl m) (by omega) e1 (fun w=>ne0 w.symm),e1,by omega,e2,fun y h1 h2 h3=>by
     rw[Oo h2,w1 y h1 (h3 m (Nat.le_refl _) (by omega))],by omega,by omega,fun w=>(by cases w),fun _=>⟨by rw[Od (by omega) (by omega),if_neg z8,z],m,Nat.le_refl _,by omega,rfl⟩,.inl rfl⟩⟩
   ·have EA:=Zvb Hh f m0 M X hi (near:Int) (r1:=Uh (V (P 8)) (4 * (i - 8))) (r2:=false) (R:=fun V'=>V'=V)
    rw[wi] at EA
    obtain⟨h',cc,kp,V',M',rfl⟩:=EA z8 (fun h1 s M1 sl sb=>Zak Hh M1 (fun h2 p4 p11 M2 n2 kk2 a4 a11 b4 b11=>by
     obtain⟨p,rfl,hp⟩:=one sl
     have bp:=sb _ _ _ _ rfl
     exact Zzq Hh f M2 (b0:=P 8) (w:=i - 8) q1 q2 (by omega) z false a4 a11 (L:=[i - 8]) (o:=0) (k:=0) ((kk2 p bp.2).trans hp) rfl b4 b11 ⟨bp.1,by omega⟩ (by omega) (r1:=Uh (V (P 8)) (4 * (i - 8))) (r2:=false) (Q:=fun h3=>Kp n q h2 h3∧∃ V',HE n q a b c e cr md S T V' h3∧V'=V) (fun h3 M3 k3=>⟨h3,Zjt Hh _ _ _ _,Nat.le_refl _,k3.kp,_,M3,rfl⟩)))
    exact⟨h',x,P,_,false,m,cc,kp,X,fun _ _=>rfl,V',M',al,⟨F,by rw[Od (by omega) (by omega),if_neg z8],z,fun _ _ _=>rfl,fun _ _ _ _=>rfl,Nat.le_refl _,by omega,fun _=>⟨rfl,rfl,rfl⟩,fun w=>(by cases w),.inl rfl⟩⟩
end
end Go.Proofs.YtgikjeaipmeclaaGreatDoor
