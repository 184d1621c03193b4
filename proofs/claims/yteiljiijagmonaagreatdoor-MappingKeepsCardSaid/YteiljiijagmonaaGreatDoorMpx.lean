/- Descriptors written and read, as the walks ask it. -/
import Derived.Test.YteiljiijagmonaaGreatDoorSup4
import Derived.Test.YteiljiijagmonaaGreatDoorMpd
set_option maxRecDepth 100000
set_option maxHeartbeats 4000000
set_option linter.unusedSimpArgs false
set_option linter.unusedVariables false
set_option linter.unusedSectionVars false
namespace Go.Proofs.YteiljiijagmonaaGreatDoor
open Go.Ev
def Zvv:List C->Option Oq
 | [.int .i64 x,.int .i64 y,.int .i64 z]=>(U8 x).bind fun x=>(U8 y).bind fun y=>(U8 z).bind fun z=>some (x,y,z)
 | _=>none
def Zyx:List (List C)->Option (List Oq)
 | []=>some []
 | r :: L=>(Zvv r).bind fun d=>(Zyx L).bind fun D=>some (d :: D)
theorem Zyy (d:Oq):Zvv (U1 d)=some d:=by simp only[Zvv,U1,Zhu,Option.bind_some]
theorem Zj2:∀ D:List Oq,Zyx (D.map U1)=some D
 | []=>rfl
 | d :: D=>by simp only[List.map_cons,Zyx,Zyy,Option.bind_some,Zj2 D]
theorem Zvw {r:List C} {d:Oq} (e:Zvv r=some d):r=U1 d:=by
 unfold Zvv at e
 split at e
 ·obtain⟨x,hx,e⟩:=Zj e
  obtain⟨y,hy,e⟩:=Zj e
  obtain⟨z,hz,e⟩:=Zj e
  cases e
  rw[Yd hx,Yd hy,Yd hz]
  rfl
 ·cases e
theorem Zj3:∀ {L:List (List C)} {D:List Oq},Zyx L=some D->L=D.map U1
 | [],D,e=>by cases e; rfl
 | r :: L,D,e=>by
  obtain⟨d,hd,e⟩:=Zj (show (Zvv r).bind _=some D from e)
  obtain⟨D',hD,e⟩:=Zj e
  cases e
  rw[List.map_cons,<-Zvw hd,<-Zj3 hD]
def Qr (dt ino:Nat) (d:Oq):Bool:=Nat.ble d.1 dt&&Nat.ble d.2.1 ino&&Nat.ble (d.2.2+d.2.1) ino
theorem Tv {dt ino:Nat} {d:Oq} (e:Qr dt ino d=true):d.1<=dt/\d.2.1<=ino/\d.2.2+d.2.1<=ino:=by
 simp only[Qr,aQ] at e
 exact⟨lQ e.1.1,lQ e.1.2,lQ e.2⟩
noncomputable def Z8k:Kn1:=fun args h=>match args with
 | [.g [.int .i64 a,.int .i64 b,.int .i64 c,.int .i64 d],.c (.slice n 0 len 3)]=>Zrf a b c d fun a b c _=>match h.get n with
  | some (.row s L _)=>(Zyx L).bind fun D=>Yt (Nat.beq s 3&&Nat.beq len a&&Nat.beq D.length a&&D.all (Qr (b - 2 - c / 4) c)&&L8 (h.get 0)) (some (.tup [.g (pgL (Et (Lj D 0 Bg))),.c (.int .i64 0)],h))
  | _=>none
 | _=>none
def Nf (ns:Lq):Nat->Nat->Bool
 | 0,_=>true
 | k+1,i=>Fv ns (i+6) 2&&Nf ns k (i+8)
theorem Zqf {ns:Lq}:∀ {a i:Nat},Nf ns a i=true->∀ k,k<a->Fv ns (8 * k+i+6) 2=true
 | 0,_,_,k,hk=>by omega
 | a+1,i,e,k,hk=>by
  have e':(Fv ns (i+6) 2&&Nf ns a (i+8))=true:=e
  rw[aQ] at e'
  cases k with
  | zero=>rw[Nat.mul_zero,Nat.zero_add]; exact e'.1
  | succ k=>have:=Zqf e'.2 k oM; rwa [show 8 * (k+1)+i+6=8 * k+(i+8)+6 by omega]
def goodD (ns:Lq) (a b c:Nat):Bool:=Nat.beq (Yq ns 252) (Qa ns)&&Fv ns (8 * a) (252 - 8 * a)&&Nf ns a 0&&(Dc ns a 0).all (Qr (b - 2 - c / 4) c)
theorem Re (ns:Lq):∀ a i,Dc (ns.map (· % 256)) a i=Dc ns a i
 | 0,_=>rfl
 | a+1,i=>by simp only[Dc,getD,Qj,Re ns a]
theorem Zla (ns:Lq):∀ a i,Nf (ns.map (· % 256)) a i=Nf ns a i
 | 0,_=>rfl
 | a+1,i=>by simp only[Nf,Zbb,Zla ns a]
theorem Tq (ns:Lq) (a b c:Nat):goodD (ns.map (· % 256)) a b c=goodD ns a b c:=by simp only[goodD,Tm,Zaf,Zbb,Zla,Re]
noncomputable def Z8i:Kn1:=fun args h=>match args with
 | [.g [.int .i64 a,.int .i64 b,.int .i64 c,.int .i64 d],.g x]=>Zrf a b c d fun a b c _=>Yt (Zlu x&&Nat.beq x.length 256&&goodD (unN x) a b c&&L8 (h.get 0)) (some (.tup [.c (.slice h.next 0 a 3),.c (.int .i64 0)],h.new (.row 3 ((Dc (unN x) a 0).map U1) false)))
 | _=>none
attribute [go_sem] Z8k Z8i Zj2 Re Tq
section
variable (Hh:Hearts K Tryz.prog)
include Hh
theorem Zu8 {args:List W} {h h':Hq} {v:V} (e:Z8k args h=some (v,h')):Zi 189 args h v h':=by
 unfold Z8k at e
 split at e
 ·obtain⟨a,b,c,d,rfl,rfl,rfl,rfl,f,e⟩:=Tk e
  split at e
  ·rename_i s L ro heq
   obtain⟨D,hD,e⟩:=Zj e
   obtain⟨q,e⟩:=Zq.1 e
   cases e
   simp only[aQ] at q
   obtain⟨⟨⟨⟨q1,q2⟩,q3⟩,q4⟩,q5⟩:=q
   obtain rfl:=bQ q1
   obtain rfl:=bQ q2
   rw[Zj3 hD] at heq
   exact Zxa Hh f (Lm q5) heq (bQ q3) fun d hd=>Tv (List.all_eq_true.1 q4 d hd)
  ·cases e
 ·cases e
theorem Z5c {args:List W} {h h':Hq} {v:V} (e:Z8i args h=some (v,h')):Zi 53 args h v h':=by
 unfold Z8i at e
 split at e
 ·obtain⟨a,b,c,d,rfl,rfl,rfl,rfl,f,e⟩:=Tk e
  obtain⟨q,e⟩:=Zq.1 e
  cases e
  simp only[aQ] at q
  obtain⟨⟨⟨q1,q2⟩,q3⟩,q5⟩:=q
  obtain⟨ns,rfl,hl⟩:=Zfs q1
  have q2:=bQ q2
  rw[q2] at hl
  rw[Gh,Tq] at q3
  rw[Gh,Re]
  simp only[goodD,aQ] at q3
  obtain⟨⟨⟨r1,r2⟩,r3⟩,r4⟩:=q3
  exact Zwy Hh f (Lm q5) hl (bQ r1) r2 (fun k hk=>by have:=Zqf r3 k hk; rwa [Nat.add_zero] at this) fun d hd=>Tv (List.all_eq_true.1 r4 d hd)
 ·cases e
end
theorem Zgv:∀ (D:List Oq) (i:Nat) (x:Lq),(Lj D i x).length=x.length
 | [],_,_=>rfl
 | d :: D,i,x=>by rw[Lj,Zgv D,Zl6]
def w2 (v:Nat):Nat:=v % 256+256 * (v / 256 % 256)
theorem Z02 {v:Nat} (h:v<65536):w2 v=v:=by unfold w2; omega
theorem at_set {ns:Lq} {i v:Nat} (h:i<ns.length):atN (ns.set i v) i=v % 256:=by
 unfold atN
 rw[List.getD_eq_getElem?_getD,List.getElem?_set_self h]
 rfl
theorem Ws {ns:Lq} {i j v:Nat} (h:i≠j):atN (ns.set i v) j=atN ns j:=by
 unfold atN
 rw[List.getD_eq_getElem?_getD,List.getD_eq_getElem?_getD,List.getElem?_set_ne h]
theorem Ny {ns:Lq} {i v:Nat} (h:i+4<=ns.length) (hv:v<4294967296):Yq (Jd ns i v) i=v:=by
 unfold Yq Jd
 have h0:atN ((((ns.set i v).set (i+1) (v / 256)).set (i+2) (v / 256 / 256)).set (i+3) (v / 256 / 256 / 256)) i=v % 256:=by
  rw[Ws oM,Ws oM,Ws oM,at_set oM]
 have h1:atN ((((ns.set i v).set (i+1) (v / 256)).set (i+2) (v / 256 / 256)).set (i+3) (v / 256 / 256 / 256)) (i+1)=v / 256 % 256:=by
  rw[Ws oM,Ws oM,at_set (by rw[List.length_set]; omega)]
 have h2:atN ((((ns.set i v).set (i+1) (v / 256)).set (i+2) (v / 256 / 256)).set (i+3) (v / 256 / 256 / 256)) (i+2)=v / 256 / 256 % 256:=by
  rw[Ws oM,at_set (by rw[List.length_set,List.length_set]; omega)]
 have h3:atN ((((ns.set i v).set (i+1) (v / 256)).set (i+2) (v / 256 / 256)).set (i+3) (v / 256 / 256 / 256)) (i+3)=v / 256 / 256 / 256 % 256:=by
  rw[at_set (by rw[List.length_set,List.length_set,List.length_set]; omega)]
 rw[h0,h1,h2,h3]
 omega
theorem take_set {ns:Lq} {i v k:Nat} (h:k<=i):(ns.set i v).take k=ns.take k:=by
 refine List.ext_getElem? fun j=>?_
 rw[List.getElem?_take,List.getElem?_take]
 split
 ·rw[List.getElem?_set_ne oM]
 ·rfl
theorem Zyv (ns:Lq):Qa (Et ns)=Qa ns:=by
 have:(Et ns).take 252=ns.take 252:=by
  unfold Et Jd
  rw[take_set oM,take_set oM,take_set oM,take_set oM]
 unfold Qa
 rw[this]
theorem Zqt (ns:Lq) {i n:Nat} (h:i+n<=252):Fv (Et ns) i n=Fv ns i n:=by
 have:((Et ns).drop i).take n=(ns.drop i).take n:=by
  rw[List.take_drop,List.take_drop]
  congr 1
  unfold Et Jd
  rw[take_set oM,take_set oM,take_set oM,take_set oM]
 unfold Fv
 rw[this]
theorem Ztw (ns:Lq) {i:Nat} (h:i<252):atN (Et ns) i=atN ns i:=by
 unfold Et Jd
 rw[Ws oM,Ws oM,Ws oM,Ws oM]
theorem Zec (ns:Lq) {i:Nat} (h:i<250):Ed (Et ns) i=Ed ns i:=by
 unfold Ed
 rw[Ztw _ oM,Ztw _ oM]
theorem Zer (ns:Lq):∀ (a i:Nat),i+8 * a<=240->Dc (Et ns) a i=Dc ns a i
 | 0,_,_=>rfl
 | a+1,i,h=>by
  rw[Dc,Dc,Zer ns a (i+8) oM]
  unfold getD
  rw[Zec _ oM,Zec _ oM,Zec _ oM]
theorem Zlb (ns:Lq):∀ (a i:Nat),i+8 * a<=240->Nf (Et ns) a i=Nf ns a i
 | 0,_,_=>rfl
 | a+1,i,h=>by rw[Nf,Nf,Zlb ns a (i+8) oM,Zqt _ oM]
def wD (d:Oq):Oq:=(w2 d.1,w2 d.2.1,w2 d.2.2)
theorem Yag {d:Oq} (h:d.1<65536/\d.2.1<65536/\d.2.2<65536):wD d=d:=by
 unfold wD
 rw[Z02 h.1,Z02 h.2.1,Z02 h.2.2]
theorem tell1 (q x y:Nat):Dc (Lj [(q,x,y)] 0 Bg) 1 0=[wD (q,x,y)]/\Nf (Lj [(q,x,y)] 0 Bg) 1 0=true/\Fv (Lj [(q,x,y)] 0 Bg) 8 244=true:=⟨kR,kR,kR⟩
theorem tell2 (q x y q1 x1 y1:Nat):Dc (Lj [(q,x,y),(q1,x1,y1)] 0 Bg) 2 0=[wD (q,x,y),wD (q1,x1,y1)]/\Nf (Lj [(q,x,y),(q1,x1,y1)] 0 Bg) 2 0=true/\Fv (Lj [(q,x,y),(q1,x1,y1)] 0 Bg) 16 236=true:=⟨kR,kR,kR⟩
theorem tell3 (q x y q1 x1 y1 q2 x2 y2:Nat):Dc (Lj [(q,x,y),(q1,x1,y1),(q2,x2,y2)] 0 Bg) 3 0=[wD (q,x,y),wD (q1,x1,y1),wD (q2,x2,y2)]/\Nf (Lj [(q,x,y),(q1,x1,y1),(q2,x2,y2)] 0 Bg) 3 0=true/\Fv (Lj [(q,x,y),(q1,x1,y1),(q2,x2,y2)] 0 Bg) 24 228=true:=⟨kR,kR,kR⟩
theorem tell4 (q x y q1 x1 y1 q2 x2 y2 q3 x3 y3:Nat):Dc (Lj [(q,x,y),(q1,x1,y1),(q2,x2,y2),(q3,x3,y3)] 0 Bg) 4 0=[wD (q,x,y),wD (q1,x1,y1),wD (q2,x2,y2),wD (q3,x3,y3)]/\Nf (Lj [(q,x,y),(q1,x1,y1),(q2,x2,y2),(q3,x3,y3)] 0 Bg) 4 0=true/\Fv (Lj [(q,x,y),(q1,x1,y1),(q2,x2,y2),(q3,x3,y3)] 0 Bg) 32 220=true:=⟨kR,kR,kR⟩
def Zvy (D:List Oq):List C:=pgL (Et (Lj D 0 Bg))
theorem Z00 {a m x:Nat} {D:List Oq} (a1:1<=a) (a4:a<=4) (Dl:D.length=a) (Dm:D.all (Qr m x)=true) (mm:m<65536) (xx:x<65536):Dc (Lj D 0 Bg) a 0=D/\Nf (Lj D 0 Bg) a 0=true/\Fv (Lj D 0 Bg) (8 * a) (252 - 8 * a)=true:=by
 have b:∀ d∈D,wD d=d:=fun d hd=>by
  obtain⟨h1,h2,h3⟩:=Tv (List.all_eq_true.1 Dm d hd)
  exact Yag ⟨oM,oM,oM⟩
 match D,Dl with
 | [],Dl=>simp at Dl; omega
 | [(q,u,v)],Dl =>
  obtain rfl:a=1:=by simpa using Dl.symm
  have:=tell1 q u v
  rw[b _ (by simp)] at this
  exact this
 | [(q,u,v),(q1,u1,v1)],Dl =>
  obtain rfl:a=2:=by simpa using Dl.symm
  have:=tell2 q u v q1 u1 v1
  rw[b _ (by simp),b (q1,u1,v1) (by simp)] at this
  exact this
 | [(q,u,v),(q1,u1,v1),(q2,u2,v2)],Dl =>
  obtain rfl:a=3:=by simpa using Dl.symm
  have:=tell3 q u v q1 u1 v1 q2 u2 v2
  rw[b _ (by simp),b (q1,u1,v1) (by simp),b (q2,u2,v2) (by simp)] at this
  exact this
 | [(q,u,v),(q1,u1,v1),(q2,u2,v2),(q3,u3,v3)],Dl =>
  obtain rfl:a=4:=by simpa using Dl.symm
  have:=tell4 q u v q1 u1 v1 q2 u2 v2 q3 u3 v3
  rw[b _ (by simp),b (q1,u1,v1) (by simp),b (q2,u2,v2) (by simp),b (q3,u3,v3) (by simp)] at this
  exact this
 | _ :: _ :: _ :: _ :: _ :: _,Dl=>simp only[List.length_cons] at Dl; omega
theorem Zvz {a b c d:Nat} (f:Y1 a b c d=true) {D:List Oq} (Dl:D.length=a) (Dm:D.all (Qr (b - 2 - c / 4) c)=true):Zlu (Zvy D)=true/\goodD (unN (Zvy D)) a b c=true/\Dc (unN (Zvy D)) a 0=D:=by
 obtain⟨g1,g2,g3,g4,g5,g6,g7,g8,g9,g10,g11⟩:=Ya f
 obtain⟨t1,t2,t3⟩:=Z00 g1 g2 Dl Dm oM oM
 refine⟨Wy _,?_,?_⟩
 ·unfold Zvy
  rw[Gh,Tq]
  have q1:Yq (Et (Lj D 0 Bg)) 252=Qa (Et (Lj D 0 Bg)):=by
   rw[Zyv]
   exact Ny (by rw[Zgv,Zn0]; omega) (Zyu _)
  unfold goodD
  rw[q1,Nat.beq_refl,Zqt _ oM,t3,Zlb _ _ _ oM,t2,Zer _ _ _ oM,t1,Dm]
  rfl
 ·unfold Zvy
  rw[Gh,Re,Zer _ _ _ oM]
  exact t1
open Go.Ev
theorem Zal {ns:Lq} {i j v:Nat} (h:j+4<=i\/i+4<=j):Yq (Jd ns i v) j=Yq ns j:=by
 unfold Yq Jd
 simp (discharger:=omega) only [Ws]
theorem Tn (j:Nat) (h:j+4<=256):Yq zer0 j=0:=by
 have a0:∀ k,atN zer0 k=0:=fun k=>by
  unfold atN zer0
  rw[List.getD_eq_getElem?_getD,List.getElem?_replicate]
  split<;>rfl
 unfold Yq
 rw[a0,a0,a0,a0]
theorem Zay {i:Nat} (h:i<8):Uw i=(i,[]):=if_pos h
theorem Zaz {i:Nat} (h:8<=i) (h2:i<72):Uw i=(8,[i - 8]):=by
 unfold Uw
 rw[if_neg oM,if_pos h2]
structure FI (blk:Nat->Nat) (V:Nat->Lq) (P:Nat->Nat) (lo m:Nat):Prop where
 i8:P 8=0\/∃ k,lo<=k/\k<m/\P 8=blk k
 bl:∀ i,i<72->Zbc V P i=0\/∃ k,lo<=k/\k<m/\Zbc V P i=blk k
 dj:∀ i j,i<72->j<72->Zbc V P i≠0->Zbc V P i=Zbc V P j->i=j
 d8:∀ i,i<72->Zbc V P i≠0->Zbc V P i≠P 8
theorem FI.step {blk:Nat->Nat} {V V':Nat->Lq} {P P':Nat->Nat} {lo m m' cap i k1:Nat} (F:FI blk V P lo m) (inj:∀ m m',m<cap->m'<cap->blk m=blk m'->m=m') (mc:m'<=cap) (lm:lo<=m) (mm:m<=m') (hP:P' 8=P 8\/∃ k,m<=k/\k<m'/\P' 8=blk k) (hj:∀ j,j<72->j≠i->Zbc V' P' j=Zbc V P j) (k1m:m<=k1) (k1l:k1<m') (hi:Zbc V' P' i=blk k1) (h8:blk k1≠P' 8):FI blk V' P' lo m':=by
 obtain⟨i8,bl,dj,d8⟩:=F
 have old:∀ j,j<72->j≠i->Zbc V' P' j≠0->Zbc V' P' j≠blk k1:=fun j h1 h2 h3 e=>by
  rw[hj j h1 h2] at h3 e
  rcases bl j h1 with w|⟨k,a1,a2,a3⟩
  ·exact h3 w
  ·have:=inj k k1 oM oM (a3.symm.trans e)
   omega
 refine⟨?_,fun j h1=>?_,fun j l h1 h2 h3 e=>?_,fun j h1 h2=>?_⟩
 ·rcases hP with w|⟨k,a1,a2,a3⟩
  ·rw[w]
   rcases i8 with w2|⟨k,a1,a2,a3⟩
   ·exact .inl w2
   ·exact .inr ⟨k,a1,oM,a3⟩
  ·exact .inr ⟨k,oM,a2,a3⟩
 ·by_cases q:j=i
  ·subst q
   exact .inr ⟨k1,oM,k1l,hi⟩
  ·rw[hj j h1 q]
   rcases bl j h1 with w|⟨k,a1,a2,a3⟩
   ·exact .inl w
   ·exact .inr ⟨k,a1,oM,a3⟩
 ·by_cases q:j=i
  ·subst q
   by_cases q2:l=j
   ·exact q2.symm
   ·exact absurd (e.symm.trans hi) (old l h2 q2 (by rw[<-e]; exact h3))
  ·by_cases q2:l=i
   ·subst q2
    exact absurd (e.trans hi) (old j h1 q h3)
   ·rw[hj j h1 q] at h3 e
    rw[hj l h2 q2] at e
    exact dj j l h1 h2 h3 e
 ·by_cases q:j=i
  ·subst q
   rw[hi]
   exact h8
  ·rw[hj j h1 q] at h2 ⊢
   rcases hP with w|⟨k,a1,a2,a3⟩
   ·rw[w]; exact d8 j h1 h2
   ·rcases bl j h1 with w|⟨k',b1,b2,b3⟩
    ·exact absurd w h2
    ·rw[b3,a3]
     intro e
     have:=inj k' k oM oM e
     omega
def Zbg (P:Nat->Nat) (k v:Nat):Nat->Nat:=fun j=>if j=k then v else P j
theorem InoP.set {x:List C} {P:Nat->Nat} (X:InoP x P) {k v:Nat} (hk:k<11) (hv:v<4294967296):InoP (x.set (4+k) (.int .u32 (v:Nat))) (Zbg P k v):=by
 obtain⟨xl,pt,pb⟩:=X
 refine⟨by rw[List.length_set]; exact xl,fun i hi=>?_,fun i hi=>?_⟩
 ·unfold Zbg
  by_cases e:i=k
  ·subst e
   rw[if_pos rfl,List.getElem?_set_self oM]
  ·rw[if_neg e,List.getElem?_set_ne oM]
   exact pt i hi
 ·unfold Zbg
  split
  ·exact hv
  ·exact pb i hi
end Go.Proofs.YteiljiijagmonaaGreatDoor
