/- Descriptors written and read, as the walks ask it. -/
import Derived.Test.YtdmendgkbikkaaaGreatDoorSup3
import Derived.Test.YtdmendgkbikkaaaGreatDoorSup4
import Derived.KernelRfl
import Derived.Test.YtdmendgkbikkaaaGreatDoorMpd
set_option linter.unusedSimpArgs false
set_option linter.unusedVariables false
set_option linter.unusedSectionVars false
set_option maxRecDepth 100000
namespace Go.Proofs.YtdmendgkbikkaaaGreatDoor
open Go.Ev
def Zse:List C→Option Oi
 | [.int .i64 x,.int .i64 y,.int .i64 z]=>(Ue x).bind fun x=>(Ue y).bind fun y=>(Ue z).bind fun z=>some (x,y,z)
 | _=>none
def Zvh:List (List C)→Option (List Oi)
 | []=>some []
 | r :: L=>(Zse r).bind fun d=>(Zvh L).bind fun D=>some (d :: D)
theorem Zvi (d:Oi):Zse (O9 d)=some d:=by simp only[Zse,O9,Zfb,Option.bind_some]
theorem Zhd:∀ D:List Oi,Zvh (D.map O9)=some D
 | []=>rfl
 | d :: D=>by simp only[List.map_cons,Zvh,Zvi,Option.bind_some,Zhd D]
theorem Zsf {r:List C} {d:Oi} (e:Zse r=some d):r=O9 d:=by
 unfold Zse at e
 split at e
 ·obtain⟨x,hx,e⟩:=Zh e
  obtain⟨y,hy,e⟩:=Zh e
  obtain⟨z,hz,e⟩:=Zh e
  cases e
  rw[Yc hx,Yc hy,Yc hz]
  rfl
 ·cases e
theorem Zhe:∀ {L:List (List C)} {D:List Oi},Zvh L=some D→L=D.map O9
 | [],D,e=>by cases e; rfl
 | r :: L,D,e=>by
  obtain⟨d,hd,e⟩:=Zh (show (Zse r).bind _=some D from e)
  obtain⟨D',hD,e⟩:=Zh e
  cases e
  rw[List.map_cons,←Zsf hd,←Zhe hD]
def Zan (dt ino:Nat) (d:Oi):Bool:=Nat.ble d.1 dt&&Nat.ble d.2.1 ino&&Nat.ble (d.2.2+d.2.1) ino
theorem Xq {dt ino:Nat} {d:Oi} (e:Zan dt ino d=true):d.1≤dt∧d.2.1≤ino∧d.2.2+d.2.1≤ino:=by
 simp only[Zan,Bool.and_eq_true] at e
 exact⟨Nat.le_of_ble_eq_true e.1.1,Nat.le_of_ble_eq_true e.1.2,Nat.le_of_ble_eq_true e.2⟩
noncomputable def Z4a:Kn1:=fun args h=>match args with
 | [.g [.int .i64 a,.int .i64 b,.int .i64 c,.int .i64 d],.c (.slice n 0 len 3)]=>Qf a b c d fun a b c _=>match h.get n with
  | some (.row s L _)=>(Zvh L).bind fun D=>Yp (Nat.beq s 3&&Nat.beq len a&&Nat.beq D.length a&&D.all (Zan (b - 2 - c / 4) c)&&Ec (h.get 0)) (some (.tup [.g (pgL (De (Fh D 0 Gn))),.c (.int .i64 0)],h))
  | _=>none
 | _=>none
def Lb (ns:List Nat):Nat→Nat→Bool
 | 0,_=>true
 | k+1,i=>Mk ns (i+6) 2&&Lb ns k (i+8)
theorem Zm4 {ns:List Nat}:∀ {a i:Nat},Lb ns a i=true→∀ k,k<a→Mk ns (8 * k+i+6) 2=true
 | 0,_,_,k,hk=>by omega
 | a+1,i,e,k,hk=>by
  have e':(Mk ns (i+6) 2&&Lb ns a (i+8))=true:=e
  rw[Bool.and_eq_true] at e'
  cases k with
  | zero=>rw[Nat.mul_zero,Nat.zero_add]; exact e'.1
  | succ k=>have:=Zm4 e'.2 k (by omega); rwa [show 8 * (k+1)+i+6=8 * k+(i+8)+6 by omega]
def goodD (ns:List Nat) (a b c:Nat):Bool:=Nat.beq (Y5 ns 252) (Vg ns)&&Mk ns (8 * a) (252 - 8 * a)&&Lb ns a 0&&(Be ns a 0).all (Zan (b - 2 - c / 4) c)
theorem Mg (ns:List Nat):∀ a i,Be (ns.map (· % 256)) a i=Be ns a i
 | 0,_=>rfl
 | a+1,i=>by simp only[Be,getD,Vo,Mg ns a]
theorem Zic (ns:List Nat):∀ a i,Lb (ns.map (· % 256)) a i=Lb ns a i
 | 0,_=>rfl
 | a+1,i=>by simp only[Lb,Zbl,Zic ns a]
theorem Rh (ns:List Nat) (a b c:Nat):goodD (ns.map (· % 256)) a b c=goodD ns a b c:=by simp only[goodD,Rc,Xk,Zbl,Zic,Mg]
noncomputable def Z38:Kn1:=fun args h=>match args with
 | [.g [.int .i64 a,.int .i64 b,.int .i64 c,.int .i64 d],.g x]=>Qf a b c d fun a b c _=>Yp (Zld x&&Nat.beq x.length 256&&goodD (unN x) a b c&&Ec (h.get 0)) (some (.tup [.c (.slice h.next 0 a 3),.c (.int .i64 0)],h.new (.row 3 ((Be (unN x) a 0).map O9) false)))
 | _=>none
attribute [go_sem] Z4a Z38 Zhd Mg Rh
section
variable (Hh:Hearts K Tryz.prog)
include Hh
theorem Z1q {args:List W} {h h':Go.Ev.H} {v:V} (e:Z4a args h=some (v,h')):Zg 191 args h v h':=by
 unfold Z4a at e
 split at e
 ·obtain⟨a,b,c,d,rfl,rfl,rfl,rfl,f,e⟩:=Rb e
  split at e
  ·rename_i s L ro heq
   obtain⟨D,hD,e⟩:=Zh e
   obtain⟨q,e⟩:=Zr.1 e
   cases e
   simp only[Bool.and_eq_true] at q
   obtain⟨⟨⟨⟨q1,q2⟩,q3⟩,q4⟩,q5⟩:=q
   obtain rfl:=Nat.eq_of_beq_eq_true q1
   obtain rfl:=Nat.eq_of_beq_eq_true q2
   rw[Zhe hD] at heq
   exact Ztr Hh f (Er q5) heq (Nat.eq_of_beq_eq_true q3) fun d hd=>Xq (List.all_eq_true.1 q4 d hd)
  ·cases e
 ·cases e
theorem Z1n {args:List W} {h h':Go.Ev.H} {v:V} (e:Z38 args h=some (v,h')):Zg 55 args h v h':=by
 unfold Z38 at e
 split at e
 ·obtain⟨a,b,c,d,rfl,rfl,rfl,rfl,f,e⟩:=Rb e
  obtain⟨q,e⟩:=Zr.1 e
  cases e
  simp only[Bool.and_eq_true] at q
  obtain⟨⟨⟨q1,q2⟩,q3⟩,q5⟩:=q
  obtain⟨ns,rfl,hl⟩:=Zdi q1
  have q2:=Nat.eq_of_beq_eq_true q2
  rw[q2] at hl
  rw[Ga,Rh] at q3
  rw[Ga,Mg]
  simp only[goodD,Bool.and_eq_true] at q3
  obtain⟨⟨⟨r1,r2⟩,r3⟩,r4⟩:=q3
  exact Zth Hh f (Er q5) hl (Nat.eq_of_beq_eq_true r1) r2 (fun k hk=>by have:=Zm4 r3 k hk; rwa [Nat.add_zero] at this) fun d hd=>Xq (List.all_eq_true.1 r4 d hd)
 ·cases e
end
theorem Zed:∀ (D:List Oi) (i:Nat) (x:List Nat),(Fh D i x).length=x.length
 | [],_,_=>rfl
 | d :: D,i,x=>by rw[Fh,Zed D,Zjb]
def w2 (v:Nat):Nat:=v % 256+256 * (v / 256 % 256)
theorem Zxn {v:Nat} (h:v<65536):w2 v=v:=by unfold w2; omega
theorem at_set {ns:List Nat} {i v:Nat} (h:i<ns.length):atN (ns.set i v) i=v % 256:=by
 unfold atN
 rw[List.getD_eq_getElem?_getD,List.getElem?_set_self h]
 rfl
theorem Va {ns:List Nat} {i j v:Nat} (h:i≠j):atN (ns.set i v) j=atN ns j:=by
 unfold atN
 rw[List.getD_eq_getElem?_getD,List.getD_eq_getElem?_getD,List.getElem?_set_ne h]
theorem Re {ns:List Nat} {i v:Nat} (h:i+4≤ns.length) (hv:v<4294967296):Y5 (Jh ns i v) i=v:=by
 unfold Y5 Jh
 have h0:atN ((((ns.set i v).set (i+1) (v / 256)).set (i+2) (v / 256 / 256)).set (i+3) (v / 256 / 256 / 256)) i=v % 256:=by
  rw[Va (by omega),Va (by omega),Va (by omega),at_set (by omega)]
 have h1:atN ((((ns.set i v).set (i+1) (v / 256)).set (i+2) (v / 256 / 256)).set (i+3) (v / 256 / 256 / 256)) (i+1)=v / 256 % 256:=by
  rw[Va (by omega),Va (by omega),at_set (by rw[List.length_set]; omega)]
 have h2:atN ((((ns.set i v).set (i+1) (v / 256)).set (i+2) (v / 256 / 256)).set (i+3) (v / 256 / 256 / 256)) (i+2)=v / 256 / 256 % 256:=by
  rw[Va (by omega),at_set (by rw[List.length_set,List.length_set]; omega)]
 have h3:atN ((((ns.set i v).set (i+1) (v / 256)).set (i+2) (v / 256 / 256)).set (i+3) (v / 256 / 256 / 256)) (i+3)=v / 256 / 256 / 256 % 256:=by
  rw[at_set (by rw[List.length_set,List.length_set,List.length_set]; omega)]
 rw[h0,h1,h2,h3]
 omega
theorem take_set {ns:List Nat} {i v k:Nat} (h:k≤i):(ns.set i v).take k=ns.take k:=by
 refine List.ext_getElem? fun j=>?_
 rw[List.getElem?_take,List.getElem?_take]
 split
 ·rw[List.getElem?_set_ne (by omega)]
 ·rfl
theorem Zvc (ns:List Nat):Vg (De ns)=Vg ns:=by
 have:(De ns).take 252=ns.take 252:=by
  unfold De Jh
  rw[take_set (by omega),take_set (by omega),take_set (by omega),take_set (by omega)]
 unfold Vg
 rw[this]
theorem Znk (ns:List Nat) {i n:Nat} (h:i+n≤252):Mk (De ns) i n=Mk ns i n:=by
 have:((De ns).drop i).take n=(ns.drop i).take n:=by
  rw[List.take_drop,List.take_drop]
  congr 1
  unfold De Jh
  rw[take_set (by omega),take_set (by omega),take_set (by omega),take_set (by omega)]
 unfold Mk
 rw[this]
theorem Zqj (ns:List Nat) {i:Nat} (h:i<252):atN (De ns) i=atN ns i:=by
 unfold De Jh
 rw[Va (by omega),Va (by omega),Va (by omega),Va (by omega)]
theorem Zby (ns:List Nat) {i:Nat} (h:i<250):Bw (De ns) i=Bw ns i:=by
 unfold Bw
 rw[Zqj _ (by omega),Zqj _ (by omega)]
theorem Zcg (ns:List Nat):∀ (a i:Nat),i+8 * a≤240→Be (De ns) a i=Be ns a i
 | 0,_,_=>rfl
 | a+1,i,h=>by
  rw[Be,Be,Zcg ns a (i+8) (by omega)]
  unfold getD
  rw[Zby _ (by omega),Zby _ (by omega),Zby _ (by omega)]
theorem Zid (ns:List Nat):∀ (a i:Nat),i+8 * a≤240→Lb (De ns) a i=Lb ns a i
 | 0,_,_=>rfl
 | a+1,i,h=>by rw[Lb,Lb,Zid ns a (i+8) (by omega),Znk _ (by omega)]
def wD (d:Oi):Oi:=(w2 d.1,w2 d.2.1,w2 d.2.2)
theorem Z52 {d:Oi} (h:d.1<65536∧d.2.1<65536∧d.2.2<65536):wD d=d:=by
 unfold wD
 rw[Zxn h.1,Zxn h.2.1,Zxn h.2.2]
theorem tell1 (q x y:Nat):Be (Fh [(q,x,y)] 0 Gn) 1 0=[wD (q,x,y)]∧Lb (Fh [(q,x,y)] 0 Gn) 1 0=true∧Mk (Fh [(q,x,y)] 0 Gn) 8 244=true:=⟨by kernel_rfl,by kernel_rfl,by kernel_rfl⟩
theorem tell2 (q x y q1 x1 y1:Nat):Be (Fh [(q,x,y),(q1,x1,y1)] 0 Gn) 2 0=[wD (q,x,y),wD (q1,x1,y1)]∧Lb (Fh [(q,x,y),(q1,x1,y1)] 0 Gn) 2 0=true∧Mk (Fh [(q,x,y),(q1,x1,y1)] 0 Gn) 16 236=true:=⟨by kernel_rfl,by kernel_rfl,by kernel_rfl⟩
theorem tell3 (q x y q1 x1 y1 q2 x2 y2:Nat):Be (Fh [(q,x,y),(q1,x1,y1),(q2,x2,y2)] 0 Gn) 3 0=[wD (q,x,y),wD (q1,x1,y1),wD (q2,x2,y2)]∧Lb (Fh [(q,x,y),(q1,x1,y1),(q2,x2,y2)] 0 Gn) 3 0=true∧Mk (Fh [(q,x,y),(q1,x1,y1),(q2,x2,y2)] 0 Gn) 24 228=true:=⟨by kernel_rfl,by kernel_rfl,by kernel_rfl⟩
theorem tell4 (q x y q1 x1 y1 q2 x2 y2 q3 x3 y3:Nat):Be (Fh [(q,x,y),(q1,x1,y1),(q2,x2,y2),(q3,x3,y3)] 0 Gn) 4 0=[wD (q,x,y),wD (q1,x1,y1),wD (q2,x2,y2),wD (q3,x3,y3)]∧Lb (Fh [(q,x,y),(q1,x1,y1),(q2,x2,y2),(q3,x3,y3)] 0 Gn) 4 0=true∧Mk (Fh [(q,x,y),(q1,x1,y1),(q2,x2,y2),(q3,x3,y3)] 0 Gn) 32 220=true:=⟨by kernel_rfl,by kernel_rfl,by kernel_rfl⟩
def Zsg (D:List Oi):List C:=pgL (De (Fh D 0 Gn))
theorem Zxk {a m x:Nat} {D:List Oi} (a1:1≤a) (a4:a≤4) (Dl:D.length=a) (Dm:D.all (Zan m x)=true) (mm:m<65536) (xx:x<65536):Be (Fh D 0 Gn) a 0=D∧Lb (Fh D 0 Gn) a 0=true∧Mk (Fh D 0 Gn) (8 * a) (252 - 8 * a)=true:=by
 have b:∀ d∈D,wD d=d:=fun d hd=>by
  obtain⟨h1,h2,h3⟩:=Xq (List.all_eq_true.1 Dm d hd)
  exact Z52 ⟨by omega,by omega,by omega⟩
 match D,Dl with
 | [],Dl=>simp at Dl; omega
 | [(q,u,v)],Dl =>
  obtain rfl:a=1:=by simpa using Dl.symm
  have:=tell1 q u v
  rw[b _ (by simp)] at this
  exact this
 | [(q,u,v),(q1,u1,v1)],Dl =>
  obtain rfl:a=2:=by simpa using Dl.symm
  have:=tell2 q u v q1 u1 v1
  rw[b _ (by simp),b (q1,u1,v1) (by simp)] at this
  exact this
 | [(q,u,v),(q1,u1,v1),(q2,u2,v2)],Dl =>
  obtain rfl:a=3:=by simpa using Dl.symm
  have:=tell3 q u v q1 u1 v1 q2 u2 v2
  rw[b _ (by simp),b (q1,u1,v1) (by simp),b (q2,u2,v2) (by simp)] at this
  exact this
 | [(q,u,v),(q1,u1,v1),(q2,u2,v2),(q3,u3,v3)],Dl =>
  obtain rfl:a=4:=by simpa using Dl.symm
  have:=tell4 q u v q1 u1 v1 q2 u2 v2 q3 u3 v3
  rw[b _ (by simp),b (q1,u1,v1) (by simp),b (q2,u2,v2) (by simp),b (q3,u3,v3) (by simp)] at this
  exact this
 | _ :: _ :: _ :: _ :: _ :: _,Dl=>simp only[List.length_cons] at Dl; omega
theorem Zsh {a b c d:Nat} (f:Y2 a b c d=true) {D:List Oi} (Dl:D.length=a) (Dm:D.all (Zan (b - 2 - c / 4) c)=true):Zld (Zsg D)=true∧goodD (unN (Zsg D)) a b c=true∧Be (unN (Zsg D)) a 0=D:=by
 obtain⟨g1,g2,g3,g4,g5,g6,g7,g8,g9,g10,g11⟩:=Yh f
 obtain⟨t1,t2,t3⟩:=Zxk g1 g2 Dl Dm (by omega) (by omega)
 refine⟨Zbq _,?_,?_⟩
 ·unfold Zsg
  rw[Ga,Rh]
  have q1:Y5 (De (Fh D 0 Gn)) 252=Vg (De (Fh D 0 Gn)):=by
   rw[Zvc]
   exact Re (by rw[Zed,Zkw]; omega) (Zvb _)
  unfold goodD
  rw[q1,Nat.beq_refl,Znk _ (by omega),t3,Zid _ _ _ (by omega),t2,Zcg _ _ _ (by omega),t1,Dm]
  rfl
 ·unfold Zsg
  rw[Ga,Mg,Zcg _ _ _ (by omega)]
  exact t1
end Go.Proofs.YtdmendgkbikkaaaGreatDoor
set_option maxRecDepth 100000
set_option maxHeartbeats 4000000
namespace Go.Proofs.YtdmendgkbikkaaaGreatDoor
open Go.Ev
theorem Zae {ns:List Nat} {i j v:Nat} (h:j+4≤i∨i+4≤j):Y5 (Jh ns i v) j=Y5 ns j:=by
 unfold Y5 Jh
 simp (discharger:=omega) only [Va]
theorem Rf (j:Nat) (h:j+4≤256):Y5 zer0 j=0:=by
 have a0:∀ k,atN zer0 k=0:=fun k=>by
  unfold atN zer0
  rw[List.getD_eq_getElem?_getD,List.getElem?_replicate]
  split<;>rfl
 unfold Y5
 rw[a0,a0,a0,a0]
theorem X3 {i:Nat} (h:i<8):Uk i=(i,[]):=if_pos h
theorem X4 {i:Nat} (h:8≤i) (h2:i<72):Uk i=(8,[i - 8]):=by
 unfold Uk
 rw[if_neg (by omega),if_pos h2]
structure FI (blk:Nat→Nat) (V:Nat→List Nat) (P:Nat→Nat) (lo m:Nat):Prop where
 i8:P 8=0∨∃ k,lo≤k∧k<m∧P 8=blk k
 bl:∀ i,i<72→X9 V P i=0∨∃ k,lo≤k∧k<m∧X9 V P i=blk k
 dj:∀ i j,i<72→j<72→X9 V P i≠0→X9 V P i=X9 V P j→i=j
 d8:∀ i,i<72→X9 V P i≠0→X9 V P i≠P 8
theorem FI.step {blk:Nat→Nat} {V V':Nat→List Nat} {P P':Nat→Nat} {lo m m' cap i k1:Nat} (F:FI blk V P lo m) (inj:∀ m m',m<cap→m'<cap→blk m=blk m'→m=m') (mc:m'≤cap) (lm:lo≤m) (mm:m≤m') (hP:P' 8=P 8∨∃ k,m≤k∧k<m'∧P' 8=blk k) (hj:∀ j,j<72→j≠i→X9 V' P' j=X9 V P j) (k1m:m≤k1) (k1l:k1<m') (hi:X9 V' P' i=blk k1) (h8:blk k1≠P' 8):FI blk V' P' lo m':=by
 obtain⟨i8,bl,dj,d8⟩:=F
 have old:∀ j,j<72→j≠i→X9 V' P' j≠0→X9 V' P' j≠blk k1:=fun j h1 h2 h3 e=>by
  rw[hj j h1 h2] at h3 e
  rcases bl j h1 with w|⟨k,a1,a2,a3⟩
  ·exact h3 w
  ·have:=inj k k1 (by omega) (by omega) (a3.symm.trans e)
   omega
 refine⟨?_,fun j h1=>?_,fun j l h1 h2 h3 e=>?_,fun j h1 h2=>?_⟩
 ·rcases hP with w|⟨k,a1,a2,a3⟩
  ·rw[w]
   rcases i8 with w2|⟨k,a1,a2,a3⟩
   ·exact .inl w2
   ·exact .inr ⟨k,a1,by omega,a3⟩
  ·exact .inr ⟨k,by omega,a2,a3⟩
 ·by_cases q:j=i
  ·subst q
   exact .inr ⟨k1,by omega,k1l,hi⟩
  ·rw[hj j h1 q]
   rcases bl j h1 with w|⟨k,a1,a2,a3⟩
   ·exact .inl w
   ·exact .inr ⟨k,a1,by omega,a3⟩
 ·by_cases q:j=i
  ·subst q
   by_cases q2:l=j
   ·exact q2.symm
   ·exact absurd (e.symm.trans hi) (old l h2 q2 (by rw[←e]; exact h3))
  ·by_cases q2:l=i
   ·subst q2
    exact absurd (e.trans hi) (old j h1 q h3)
   ·rw[hj j h1 q] at h3 e
    rw[hj l h2 q2] at e
    exact dj j l h1 h2 h3 e
 ·by_cases q:j=i
  ·subst q
   rw[hi]
   exact h8
  ·rw[hj j h1 q] at h2 ⊢
   rcases hP with w|⟨k,a1,a2,a3⟩
   ·rw[w]; exact d8 j h1 h2
   ·rcases bl j h1 with w|⟨k',b1,b2,b3⟩
    ·exact absurd w h2
    ·rw[b3,a3]
     intro e
     have:=inj k' k (by omega) (by omega) e
     omega
def Wl (P:Nat→Nat) (k v:Nat):Nat→Nat:=fun j=>if j=k then v else P j
theorem InoP.set {x:List C} {P:Nat→Nat} (X:InoP x P) {k v:Nat} (hk:k<11) (hv:v<4294967296):InoP (x.set (4+k) (.int .u32 (v:Nat))) (Wl P k v):=by
 obtain⟨xl,pt,pb⟩:=X
 refine⟨by rw[List.length_set]; exact xl,fun i hi=>?_,fun i hi=>?_⟩
 ·unfold Wl
  by_cases e:i=k
  ·subst e
   rw[if_pos rfl,List.getElem?_set_self (by omega)]
  ·rw[if_neg e,List.getElem?_set_ne (by omega)]
   exact pt i hi
 ·unfold Wl
  split
  ·exact hv
  ·exact pb i hi
end Go.Proofs.YtdmendgkbikkaaaGreatDoor
