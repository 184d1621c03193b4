/- data.ensure: a block hangs at each index into which bytes go. -/
import Derived.Test.YtgikjeaipmeclaaGreatDoorDbx
set_option linter.unusedSimpArgs false
set_option linter.unusedVariables false
set_option linter.unusedSectionVars false
set_option maxRecDepth 100000
set_option maxHeartbeats 4000000
namespace Go.Proofs.YtgikjeaipmeclaaGreatDoor
open Go.Ev
theorem ty54:K.types.get 54=some ti54:=by kernel_rfl
theorem sz54:ti54.size=1:=by rfl
theorem ag54:ti54.agg=false:=by rfl
theorem de54:ti54.desc=(.slice 65):=by rfl
theorem ze54:ti54.zero=(.c (.snil)):=by rfl
theorem by54:ti54.bytes=24:=by rfl
theorem el54:Y3 K 54=some ti65:=by kernel_rfl
attribute [go_sem] ty54 sz54 ag54 de54 ze54 by54 el54
noncomputable def q13 (p:List Nat):Code:=piece p (Uq Tryz.f13)
theorem Zr7:q13 [1,1,0,1,2]=.rangeFunc (.tmp 20) #[21] (q13 [1,1,0,1,2,5]) (q13 [1,1,0,1,2,6]):=by kernel_rfl
theorem Zmf:q13 [1,1,0,1,2,5]=.region 3 (Zru (q13 [1,1,0,1,2,5])) false:=by kernel_rfl
theorem Zm1:q13 [1,1,0,1,2,6]=.block 1 (q13 [1,1,0,1,2,6,2]):=by kernel_rfl
theorem rs13:Tryz.f13.results.toList=[.cell 8 37,.cell 9 54,.cell 10 38]:=rfl
attribute [go_sem] rs13
theorem Zwi {n:Nat} {rd:Option Nat} {cd:Go.Code} {ds:List Nat} {ts:Zu} {h:Go.Ev.H} {Q:X→List Nat→Zu→Go.Ev.H→Prop} (g:∀ ts',ts'=ts→Goes K Tryz.prog n rd cd ds ts' h Q):Goes K Tryz.prog n rd cd ds ts h Q:=g ts rfl
theorem Zwm {nt l pr dd:Nat} {ts:Zu} {A B:Go.Code} (ne:B≠A) {u:W} {h:Go.Ev.H} {J:Zu→Go.Ev.H→Prop} {Q:Go.Ev.H→Prop} (pn:pr<nt)
  (hl:h.get l=some (.loop ts nt [pr] A B .ready none dd))
  (hA:Goes K Tryz.prog nt (some l) A [] (ts.set pr (.w u)) h fun x ds' ts' h'=>x=.normal∧ds'=[]∧h'.get l=h.get l∧J ts' h')
  (hB:∀ ts' h',J ts' h'→Goes K Tryz.prog nt (some l) B [] ts' (h'.put l (.loop ts nt [pr] A B .busy none dd)) fun x _ _ h2=>x=.normal∧h2.get l=some (.loop ts nt [pr] A B .busy none dd)∧Q h2) :
  ∃ E h2,Sound K Tryz.prog E∧Oq E l (some [u]) h (some (.loop ts nt [pr] A B .ready none dd))=some (.val (.w (.c (.bool true))) (h2.put l (.loop ts nt [pr] A B .ready none dd)))∧Q h2:=by
 obtain⟨xa,ds1,ts1,h1,kA,rfl,rfl,gl,j⟩:=hA
 obtain⟨xb,ds2,ts2,h2,kB,rfl,g2,q⟩:=hB _ _ j
 have Sd:=Di (Di Zc kB) kA
 have z:Um nt [pr] [u] ts=some (ts.set pr (.w u)):=by
  simp only[Um]
  rw[show Nat.blt pr nt=true from Nat.ble_eq_true_of_le pn,cond_true]
 obtain⟨E,h3,Sd2,r,rfl⟩:∃ E h3,Sound K Tryz.prog E∧Oq E l (some [u]) h (h.get l)=some (.val (.w (.c (.bool true))) h3)∧h3=h2.put l (.loop ts nt [pr] A B .ready none dd) :=
  ⟨_,_,Sd,Lt hl z (Fq ..) (gl.trans hl) (Q4 (fun e=>ne (Task.code.inj e).1) |>.trans (Fq ..)) g2,rfl⟩
 rw[hl] at r
 exact⟨_,_,Sd2,r,q⟩
def rowP (x:Nat × Bool):List C:=[.int .i64 (x.1:Nat),.bool x.2]
def SlP (b:Nat) (h:Go.Ev.H) (c:C) (l:List (Nat × Bool)):Prop:=(l=[]∧c=.snil)∨∃ p,0<l.length∧c=.slice p 0 l.length 2∧h.get p=some (.row 2 (l.map rowP) false)∧b≤p∧p<h.next
theorem SlP.keep {b:Nat} {h h':Go.Ev.H} {c:C} {l:List (Nat × Bool)} (s:SlP b h c l) (nx:h.next≤h'.next) (k:∀ p,b≤p→p<h.next→h'.get p=h.get p):SlP b h' c l:=by
 rcases s with s|⟨p,a1,a2,a3,a4,a5⟩
 ·exact .inl s
 ·exact .inr ⟨p,a1,a2,(k p a4 a5).trans a3,a4,by omega⟩
theorem SlP.move {b:Nat} {h h':Go.Ev.H} {c:C} {l:List (Nat × Bool)} (s:SlP b h c l) (nx:h.next≤h'.next) (k:∀ p o n z,c=.slice p o n z→h'.get p=h.get p):SlP b h' c l:=by
 rcases s with s|⟨p,a1,a2,a3,a4,a5⟩
 ·exact .inl s
 ·exact .inr ⟨p,a1,a2,(k _ _ _ _ a2).trans a3,a4,by omega⟩
theorem SlP.mono {b b':Nat} {h:Go.Ev.H} {c:C} {l:List (Nat × Bool)} (s:SlP b h c l) (le:b'≤b):SlP b' h c l:=by
 rcases s with s|⟨p,a1,a2,a3,a4,a5⟩
 ·exact .inl s
 ·exact .inr ⟨p,a1,a2,a3,by omega,a5⟩
theorem Z3n:ti65.size=2:=rfl
theorem Z3a:ti65.bytes=16:=rfl
theorem Z2e (h:Go.Ev.H) (z:Nat) (b:Bool):Y2 h 1 (some ti65) (some [(0,.g [.int .i64 (z:Int),.bool b])])=some (.w (.c (.slice h.next 0 1 2)),h.new (.row 2 [rowP (z,b)] false)):=rfl
theorem Z18 (b:Nat) (h:Go.Ev.H) (c:C) (l:List (Nat × Bool)) (s:SlP b h c l):Yy K 54 c=true:=by
 rcases s with ⟨_,rfl⟩|⟨p,_,rfl,_⟩
 ·unfold Yy; rw[show K.types.get 54=some ti54 by kernel_rfl]; rfl
 ·unfold Yy; rw[show K.types.get 54=some ti54 by kernel_rfl]; rfl
theorem Z3t (n off len:Nat):Yy K 54 (.slice n off len 2)=true:=by unfold Yy; rw[show K.types.get 54=some ti54 by kernel_rfl]; rfl
theorem Z2i {b:Nat} {h:Go.Ev.H} {c:C} {l:List (Nat × Bool)} (s:SlP b h c l) (bh:b≤h.next) (hl:l.length≤4000) (x:Nat × Bool):∃ c' h',Uj (h.new (.row 2 [rowP x] false)) (some ti65) c (.slice h.next 0 1 2)=some (.w (.c c'),h')∧SlP b h' c' (l++[x])∧h.next≤h'.next∧(∀ p,p<b→h'.get p=h.get p)∧∀ p y,p<h.next→h.get p=some (.row 4 [y] false)→h'.get p=some (.row 4 [y] false):=by
 rcases s with ⟨rfl,rfl⟩|⟨p,p1,rfl,pp,p3,p4⟩
 ·refine⟨_,_,append_nil (M:=[rowP x]) Z3n (by rw[H.Zi,if_pos rfl]) (by simp) (by rw[Z3a]; show 1 * 16≤_; omega) (by show 1≤_; omega),.inr ⟨h.next+1,by simp,rfl,?_,by omega,?_⟩,?_,fun p hp=>?_,fun p y hp hy=>?_⟩
  ·rw[Uw (by simp only[H.Zg]<;>omega)]; rfl
  ·simp only[H.Zg]; omega
  ·simp only[H.Zg]; omega
  ·rw[Yg (by simp only[H.Zg]; omega),Yg (by omega)]
  ·rw[Yg (by simp only[H.Zg]; omega),Yg (by omega),hy]
 ·have ml:(l.map rowP).length=l.length:=by simp
  have ap:=Nz (h:=h.new (.row 2 [rowP x] false)) (te:=ti65) (n:=p) (n':=h.next) (L:=l.map rowP) (M:=[rowP x]) (ro:=false) Z3n (by rw[H.Zi,if_neg (by omega)]; exact pp) (by rw[H.Zi,if_pos rfl]) (by simp) (by rw[Z3a,ml]; show (l.length+1) * 16≤_; omega) (by rw[ml]; show l.length+1≤_; omega)
  rw[ml] at ap
  refine⟨_,_,ap,.inr ⟨h.next+1,by simp,by rw[List.length_append]; rfl,?_,by omega,?_⟩,?_,fun q hq=>?_,fun q y hq hy=>?_⟩
  ·rw[Uw (by simp only[H.Zg,H.Zr]<;>omega),List.map_append]; rfl
  ·simp only[H.Zg,H.Zr]; omega
  ·simp only[H.Zg,H.Zr]; omega
  ·rw[Yg (by simp only[H.Zg,H.Zr]; omega),Rm (by omega),Yg (by omega)]
  ·have ne:q≠p:=fun e=>by
    rw[e,pp] at hy
    have:=(O.row.inj (Option.some.inj hy)).1
    omega
   rw[Yg (by simp only[H.Zg,H.Zr]; omega),Rm ne,Yg (by omega),hy]
def plc (V:Nat→List Nat) (P:Nat→Nat) (x0 i1 c:Nat):List (Nat × Bool):=(List.range c).map fun k=>(Je V P (x0+k),decide (i1≤x0+k))
theorem Zp9 (V:Nat→List Nat) (P:Nat→Nat) (x0 i1 c:Nat):(plc V P x0 i1 c).length=c:=by simp [plc]
theorem Zvv {V V':Nat→List Nat} {P P':Nat→Nat} {x0 i1 c:Nat} (h:∀ k,k<c→Je V' P' (x0+k)=Je V P (x0+k)):plc V' P' x0 i1 (c+1)=plc V P x0 i1 c++[(Je V' P' (x0+c),decide (i1≤x0+c))]:=by
 unfold plc
 rw[List.range_succ,List.map_append]
 congr 1
 apply List.map_congr_left
 intro k hk
 rw[h k (List.mem_range.1 hk)]
theorem EnsR.low {blk:Nat→Nat} {mt:Nat→Prop} {V V':Nat→List Nat} {P P':Nat→Nat} {lo m m' i bi cap:Nat} {fr:Bool} (R:EnsR blk mt V P lo m i V' P' m' bi fr) (F:FI blk V P lo m) (inj:∀ m m',m<cap→m'<cap→blk m=blk m'→m=m') (mc:m+2≤cap) (lm:lo≤m) (nm:∀ k,k<cap→0<blk k∧¬ mt (blk k)) {k:Nat} (hk:k<lo):V' (blk k)=V (blk k):=by
 have m2:=R.m2
 refine R.keep _ (nm k (by omega)).2 (fun e=>?_) fun k' a b e=>?_
 ·have z:=(nm k (by omega)).1
  rcases R.p8 with w|⟨_,k',a,b,c⟩
  ·rw[w] at e
   rcases F.i8 with w2|⟨k',a,b,c⟩
   ·omega
   ·have:=inj k k' (by omega) (by omega) (e.trans c)
    omega
  ·have:=inj k k' (by omega) (by omega) (e.trans c)
   omega
 ·have:=inj k k' (by omega) (by omega) e
  omega
section
variable (Hh:Hearts K Tryz.prog)
include Hh
theorem Zjc {nt pr off len bO:Nat} {A B:Go.Code} (ne:B≠A) (pn:pr<nt) {ts:Zu} {I:Nat→Go.Ev.H→Prop} {JT:Zu→Nat→Prop} {hC:Go.Ev.H} (o2:off≤16777216) (l2:len≤16777216)
  (Ik:∀ d h h2,I d h→h.next≤h2.next→(∀ p,p<h.next→p≠bO+3→h2.get p=h.get p)→I d h2)
  (hA:∀ (u:List C) (h:Go.Ev.H),u.length=4→Goes K Tryz.prog nt (some (bO+3)) A [] (ts.set pr (.w (.g u))) h fun x ds' ts' h'=>x=.normal∧ds'=[]∧JT ts' h.next∧h'.next=h.next+1∧(∀ m,m<h.next→h'.get m=h.get m)∧h'.get h.next=some (.row 4 [u] false))
  (hB:∀ d ts' h pp,d<len→JT ts' pp→h.get pp=some (.row 4 [pcC off len d] false)→bO+4≤pp→pp<h.next→I d h→Goes K Tryz.prog nt (some (bO+3)) B [] ts' h fun x _ _ h'=>x=.normal∧h'.get (bO+3)=h.get (bO+3)∧I (pcN off len d) h'∧h.next≤h'.next∧h'.get bO=h.get bO∧h'.get (bO+1)=h.get (bO+1)∧∀ p y,bO+4≤p→p<h.next→h.get p=some (.row 4 [y] false)→h'.get p=some (.row 4 [y] false))
  (nC:hC.next=bO+2) (g6:hC.get bO=some (.row 1 [[.int .i64 (off:Int)]] false)) (g7:hC.get (bO+1)=some (.row 1 [[.int .i64 (len:Int)]] false)) {g:Go.Operand} (e20:Zv K ts g=some (.fn 37 [] [some (bO+1,0),some (bO,0)]))
  (I0:∀ h2,bO+4≤h2.next→h2.get (bO+2)=some .defers→(∀ p,p<bO+2→h2.get p=hC.get p)→I 0 h2) :
  Goes K Tryz.prog nt none (.rangeFunc g #[pr] A B) [] ts hC fun x' ds' ts' h'=>x'=.normal∧ts'=ts∧ds'=[bO+2]∧I len h':=by
 obtain⟨lp,hlp⟩:∃ lp,lp=O.loop ts nt [pr] A B .ready none (bO+2):=⟨_,rfl⟩
 have round:∀ d h,d<len→I d h→h.get (bO+3)=some lp→h.get (bO+1)=some (.row 1 [[.int .i64 (len:Int)]] false)→h.get bO=some (.row 1 [[.int .i64 (off:Int)]] false)→bO+3<h.next→bO+1<h.next→bO<h.next→bO+4≤h.next→∃ E h',Sound K Tryz.prog E∧Oq E (bO+3) (some [.g (pcC off len d)]) h (some lp)=some (.val (.w (.c (.bool true))) h')∧I (pcN off len d) h'∧h'.get (bO+3)=some lp∧h'.get (bO+1)=h.get (bO+1)∧h'.get bO=h.get bO∧h.next≤h'.next∧∀ p x,bO+4≤p→p<h.next→h.get p=some (.row 4 [x] false)→h'.get p=some (.row 4 [x] false):=by
  intro d h dl J hl h7 h6 l9 l7 l6 l10
  subst hlp
  obtain⟨E2,h2,Sd,rnd,J',nx,k6,k7,k4⟩:=Zwm (l:=bO+3) (nt:=nt) (pr:=pr) (J:=fun ts' h'=>JT ts' h.next∧h'.next=h.next+1∧(∀ m,m<h.next→h'.get m=h.get m)∧h'.get h.next=some (.row 4 [pcC off len d] false))
   (Q:=fun h2=>I (pcN off len d) h2∧h.next≤h2.next∧h2.get bO=h.get bO∧h2.get (bO+1)=h.get (bO+1)∧∀ p y,bO+4≤p→p<h.next→h.get p=some (.row 4 [y] false)→h2.get p=some (.row 4 [y] false)) ne pn hl
   ((hA (pcC off len d) h rfl).mono fun x' ds' ts' h' ⟨e1,e2,t1,n1,k1,r1⟩=>⟨e1,e2,k1 _ l9,t1,n1,k1,r1⟩)
   (fun ts' h' ⟨E',n1,k1,r1⟩=>(hB d ts' (h'.put (bO+3) (.loop ts nt [pr] A B .busy none (bO+2))) h.next dl E' (by rw[Zp (by omega)]; exact r1) (by omega) (by rw[H.Zj]; omega) (Ik d h _ J (by rw[H.Zj]; omega) fun p hp hne=>by rw[Zp hne]; exact k1 p hp)).mono fun x2 _ _ h2 ⟨e1,e9,J2,n2,k6,k7,k4⟩=>by
    rw[Zp (by omega)] at k6 k7
    refine⟨e1,e9.trans (Z8 ..),J2,by rw[H.Zj] at n2; omega,k6.trans (k1 _ l6),k7.trans (k1 _ l7),fun p y h1 h2 h3=>k4 p y h1 (by rw[H.Zj]; omega) (by rw[Zp (by omega),k1 p h2]; exact h3)⟩)
  refine⟨E2,_,Sd,rnd,Ik _ _ _ J' (by rw[H.Zj]; omega) fun p _ hne=>Zp hne,Z8 ..,?_,?_,by rw[H.Zj]; exact nx,fun p y h1 h2 h3=>?_⟩
  ·rw[Zp (by omega)]; exact k7
  ·rw[Zp (by omega)]; exact k6
  ·rw[Zp (by omega)]; exact k4 p y h1 h2 h3
 have gl:((hC.new .defers).new lp).get (bO+3)=some lp:=Uw (by rw[H.Zg]; omega)
 have gd:((hC.new .defers).new lp).get (bO+2)=some .defers:=by rw[Yg (by rw[H.Zg]; omega),Uw (by omega)]
 have gk:∀ p,p<bO+2→((hC.new .defers).new lp).get p=hC.get p:=fun p hp=>by rw[Yg (by rw[H.Zg]; omega),Yg (by omega)]
 have nx:((hC.new .defers).new lp).next=bO+4:=by simp only[H.Zg]; omega
 have pr':=Zqf Hh (L:=bO+4) (l:=bO+3) (p1:=bO+1) (p2:=bO) (off:=off) (len:=len) (lp:=lp) (I:=I) o2 l2
  (fun d h h2 J nx k=>Ik d h h2 J nx fun p hp _=>k p hp) round (h:=(hC.new .defers).new lp) (I0 _ (by omega) gd gk) gl ((gk _ (by omega)).trans g7) ((gk _ (by omega)).trans g6) ⟨by omega,by omega,by omega,by omega⟩
 obtain⟨v,h3,cc,J,g9⟩:=pr'
 refine Goes.Zov fits Hh (f:=37) (first:=[]) (caps:=[some (bO+1,0),some (bO,0)]) e20 ⟨v,h3,?_,?_⟩
 ·rw[nC]
  subst hlp
  exact cc
 ·rw[nC]
  subst hlp
  refine⟨_,_,_,_,_,_,_,_,g9,by simp,?_⟩
  show _∧_∧_
  exact⟨rfl,rfl,rfl,Ik _ _ _ J (by rw[H.Zj]; omega) fun p _ hne=>Zp hne⟩
structure EnJ (n q a b c e:Nat) (cr:Cr) (md:Int) (S T:List Nat) (Al:(Nat→List Nat)→Nat→Prop) (blk:Nat→Nat) (F:Nat→Nat) (lo m0 i0 i1 off len b0:Nat) (V0:Nat→List Nat) (x0:List C) (h0:Go.Ev.H) (d:Nat) (h:Go.Ev.H) (V:Nat→List Nat) (P:Nat→Nat) (x:List C) (m:Nat) (s:C):Prop where
 M:HE n q a b c e cr md S T V h
 al:Al V m
 lm:lo≤m∧m0≤m
 mb:m≤m0+2 * (max i1 (xnD off d) - i1)
 X:InoP x P
 cs:∀ j,j<4∨15≤j→x[j]? = x0[j]?
 fe:FilE blk V P F lo m i0 i1 (max i1 (xnD off d))
 hI:P 8≠0→P 8 ∉ T
 al8:d=0∨d=len∨(off+d) % 256=0
 dl:d≤len
 fr:∀ k,k<lo→V (blk k)=V0 (blk k)
 sl:SlP (b0+10) h s (plc V P (off / 256) i1 (xnD off d - off / 256))
 c4:h.get b0=some (.row 1 [[.ptr (n+13) 0]] false)
 c5:h.get (b0+1)=some (.row 16 [x] false)
 c8:∃ y,y.length=16∧h.get (b0+2)=some (.row 16 [y] false)
 c9:h.get (b0+3)=some (.row 1 [[.snil]] false)
 c10:h.get (b0+4)=some (.row 1 [[.int .i64 0]] false)
 c11:h.get (b0+5)=some (.row 1 [[s]] false)
 df:h.get (b0+8)=some .defers
 nx:b0+10≤h.next
 kp:∀ p,p<b0→Out n q p→h.get p=h0.get p
structure EnT (b0:Nat) (ts:Zu):Prop where
 t4:Zk ts 4=.w (.c (.ptr b0 0))
 t5:Zk ts 5=.w (.c (.ptr (b0+1) 0))
 t8:Zk ts 8=.w (.c (.ptr (b0+2) 0))
 t9:Zk ts 9=.w (.c (.ptr (b0+3) 0))
 t10:Zk ts 10=.w (.c (.ptr (b0+4) 0))
 t11:Zk ts 11=.w (.c (.ptr (b0+5) 0))
variable {n q a b c e:Nat} {cr:Cr} {md:Int} {S T:List Nat} {V V0:Nat→List Nat} {Al:(Nat→List Nat)→Nat→Prop} {blk:Nat→Nat} {cap:Nat} {mt nk:Nat→Prop} {F:Nat→Nat} {P:Nat→Nat} {lo m0 i0 i1 off len b0 m d:Nat} {x x0:List C} {h0 h h2:Go.Ev.H} {s:C}
omit Hh in
theorem EnJ.keep (J:EnJ n q a b c e cr md S T Al blk F lo m0 i0 i1 off len b0 V0 x0 h0 d h V P x m s) (bq:q+9≤b0) (nx:h.next≤h2.next) (k:∀ p,p<h.next→p≠b0+9→h2.get p=h.get p):EnJ n q a b c e cr md S T Al blk F lo m0 i0 i1 off len b0 V0 x0 h0 d h2 V P x m s:=by
 obtain⟨M,al,lm,mb,X,cs,fe,hI,al8,dl,fr,sl,c4,c5,c8,c9,c10,c11,df,nx',kp⟩:=J
 have kk:∀ p,p<b0+9→h2.get p=h.get p:=fun p hp=>k p (by omega) (by omega)
 refine⟨M.keep nx fun p hp=>kk p (by omega),al,lm,mb,X,cs,fe,hI,al8,dl,fr,sl.keep nx fun p h1 h2=>k p h2 (by omega),(kk _ (by omega)).trans c4,(kk _ (by omega)).trans c5,?_,(kk _ (by omega)).trans c9,(kk _ (by omega)).trans c10,(kk _ (by omega)).trans c11,(kk _ (by omega)).trans df,by omega,fun p hp ho=>(kk p (by omega)).trans (kp p hp ho)⟩
 obtain⟨y,y1,y2⟩:=c8
 exact⟨y,y1,(kk _ (by omega)).trans y2⟩
theorem enA (l:Nat) (ts:Zu) (u:List C) (ul:u.length=4) (h:Go.Ev.H):Goes K Tryz.prog 63 (some l) (q13 [1,1,0,1,2,5]) [] (ts.set 21 (.w (.g u))) h fun x ds' ts' h'=>x=.normal∧ds'=[]∧(∀ s,s≤11→Zk ts' s=Zk ts s)∧Zk ts' 12=.w (.c (.ptr h.next 0))∧h'.next=h.next+1∧(∀ m,m<h.next→h'.get m=h.get m)∧h'.get h.next=some (.row 4 [u] false):=by
 have ut:u.take 4=u:=List.take_of_length_le (by omega)
 have wr4:Z4 4 [[.int .i64 0,.int .i64 0,.int .i64 0,.int .i64 0]] 0 u=some [u]:=by
  match u,ul with
  | [u0,u1,u2,u3],_=>rfl
 (apply Goes.ops2 fits Hh Zc; · simp (maxSteps:=9^6) +decide (disch:=first|omega|(simp only[lens]<;>omega)|decide) only [go_sem,Za,simprocAttr,ul,ut,wr4]<;>rfl)
 refine⟨rfl,rfl,fun s hs=>?_,?_,?_,fun m hm=>?_,?_⟩
 ·simp (decide:=true) only [Yo hs]
 ·simp (maxSteps:=9^6) +decide (disch:=first|omega|(simp only[lens]<;>omega)|decide) only [go_sem,Zb,Za,simprocAttr]
 ·simp only[H.Zj,H.Zg]
 ·simp (disch:=first|omega|(simp only[lens]<;>omega)) only [go_sem]
 ·first|exact Z8 .. | (simp (maxSteps:=9^6) +decide (disch:=first|omega|(simp only[lens]<;>omega)|decide) only [go_sem,Zb,Za,simprocAttr]; done)|(simp (maxSteps:=9^6) +decide (disch:=first|omega|(simp only[lens]<;>omega)|decide) only [go_sem,Zb,Za,simprocAttr]<;>rfl)
theorem enB (f:Y4 a b c e=true) (m1:md≠0) (A:Alc n q a b c e cr md S Al blk cap mt nk) (bT:∀ k,m0≤k→k<cap→blk k ∉ T) (hT:∀ z,mt z→z ∉ T) (b32:∀ k,k<cap→blk k<4096) (mc:m0+2 * 36+2≤cap∨m0+2 * ((off+len+255) / 256 - i1)+2≤cap) (hx:i0≤off / 256∧(off / 256=i1∨off / 256+1=i1)) (o36:off+len≤36 * 256) (bq:q+9≤b0) (nq:n+23≤q) (dl:d<len) {ts:Zu} {l pp:Nat} (E:EnT b0 ts) (t12:Zk ts 12=.w (.c (.ptr pp 0))) (hp:h.get pp=some (.row 4 [pcC off len d] false)) (pb:b0+10≤pp∧pp<h.next)
  (J:EnJ n q a b c e cr md S T Al blk F lo m0 i0 i1 off len b0 V0 x0 h0 d h V P x m s) :
  Goes K Tryz.prog 63 (some l) (q13 [1,1,0,1,2,6]) [] ts h fun x' _ _ h'=>x'=.normal∧h'.get (b0+9)=h.get (b0+9)∧(∃ V P x m s,EnJ n q a b c e cr md S T Al blk F lo m0 i0 i1 off len b0 V0 x0 h0 (pcN off len d) h' V P x m s)∧h.next≤h'.next∧h'.get (b0+6)=h.get (b0+6)∧h'.get (b0+7)=h.get (b0+7)∧∀ p y,b0+10≤p→p<h.next→h.get p=some (.row 4 [y] false)→h'.get p=some (.row 4 [y] false):=by
 obtain⟨t4,t5,t8,t9,t10,t11⟩:=E
 obtain⟨M,al,lm,mb,X,cs,fe,hI,al8,dl',fr,sl,c4,c5,c8,c9,c10,c11,df,nx',kp⟩:=J
 have al0:d=0∨(off+d) % 256=0:=by omega
 obtain⟨xn,xn2,al2⟩:=Zos dl al0
 have pn:=Zip (off:=off) dl
 have m8:=Nat.mod_lt (off+d) (show 0<256 by decide)
 have dm:=Nat.div_add_mod (off+d) 256
 have xge:off / 256≤(off+d) / 256:=Nat.div_le_div_right (by omega)
 have xd0:d=0∨off / 256+1≤(off+d) / 256:=by omega
 have i36:(off+d) / 256<36:=by omega
 have xend:(off+d) / 256+1≤(off+len+255) / 256:=by omega
 obtain⟨i,hi⟩:∃ i,(off+d) / 256=i:=⟨_,rfl⟩
 rw[hi] at xn xn2 xge i36 xend xd0
 rw[xn] at fe mb sl
 have i2e:i=max i1 i∨i+1=max i1 i:=by
  rcases xd0 with w|w
  ·subst w; rw[Nat.add_zero] at hi; omega
  ·omega
 have mc':m+2≤cap:=by
  have q1:=fe.ii.2.2
  omega
 have xl:=X.xl
 have rI:read1 4 [pcC off len d] 0=some (.int .i64 (i:Int)):=by rw[←hi]; rfl
 have pl:(pcC off len d).length=4:=rfl
 obtain⟨u,hu⟩:∃ u,pcC off len d=u:=⟨_,rfl⟩
 rw[hu] at rI pl hp
 have nm:∀ k,k<cap→0<blk k∧¬ mt (blk k):=fun k hk=>⟨(A.ours k hk).2.2.1,(A.ours k hk).2.2.2.1⟩
 have way:∀ j,j<36→Zpy a b c e V (P (Yq j).1) (Yq j).2:=fun j hj k hk hz=>by
  by_cases dd:j<8
  ·rw[Zcv dd] at hk; exact absurd hk (by simp)
  ·rw[Zct (by omega) (by omega)] at hk hz ⊢
   obtain rfl:k=0:=by simpa using hk
   have e8:Nk V (P 8) (List.take 0 [j - 8])=P 8:=rfl
   rw[e8] at hz ⊢
   obtain⟨k',k0,k1,k2⟩:=fe.fi.i8.resolve_left hz
   rw[k2]
   have o:=A.ours k' (by omega)
   exact⟨o.1,o.2.1⟩
 have near:∃ nr:Nat,nk nr∧∀ {h1:Go.Ev.H},HE n q a b c e cr md S T V h1→∃ h' er,Ze K Tryz.prog 19 [.c (.ptr (n+13) 0),.g x,.c (.int .i64 ((i:Int) - 1))] h1 (.tup [.c (.int .i64 (nr:Int)),.c (.int .i64 er)]) h'∧(er=0∨er=100)∧HE n q a b c e cr md S T V h'∧Kr n q h1 h':=by
  by_cases i0':i=0
  ·subst i0'
   refine⟨0,A.near.1,fun {h1} M1=>?_⟩
   obtain⟨h',c1,M',k'⟩:=Zxx Hh f m1 M1 X
   exact⟨h',100,c1,.inr rfl,M',k'⟩
  ·obtain⟨j,rfl⟩:∃ j,i=j+1:=⟨i - 1,by omega⟩
   refine⟨Je V P j,?_,fun {h1} M1=>?_⟩
   ·rcases fe.fi.bl j (by omega) with w|⟨k,k0,k1,k2⟩
    ·rw[w]; exact A.near.1
    ·rw[k2]; exact A.near.2 k (by omega)
   ·obtain⟨h',c1,M',k'⟩:=Zpw Hh f m1 M1 X (i:=j) (by omega) (way j (by omega))
    have ej:((j+1:Nat):Int) - 1=(j:Int):=by omega
    rw[ej]
    exact⟨h',0,c1,.inl rfl,M',k'⟩
 obtain⟨nr,nkr,hF⟩:=near
 obtain⟨hB,er,c4',ere,MB,kB⟩:=hF M
 have hE:=fun {h1:Go.Ev.H} (M1:HE n q a b c e cr md S T V h1)=>Z17 Hh f m1 A M1 al lm.1 mc' hT (fun k k1 k2=>bT k (by omega) k2) b32 X fe.fi hI (i:=i) (by omega) nkr
 obtain⟨hC,x',P',bi,fb,m',c7,kC,X',cs',V',MC,al',R⟩:=hE MB
 obtain⟨fe',hfb,hbi⟩:=fe.ens A.inj mc' (fun k hk=>(nm k hk).2) (by omega) i36 i2e R
 have xl':=X'.xl
 have keep:∀ p,p<h.next→q+9≤p→hC.get p=h.get p:=fun p hp hq=>(kC.2 p (by have:=kB.1; omega) ⟨⟨by omega,by omega,by omega,by omega,by omega⟩,by omega⟩).trans (kB.2 p hp (by omega))
 have nB:=kB.1
 have nC:=kC.1
 have b5:=(kB.2 (b0+1) (by omega) (by omega)).trans c5
 have b4:=(kB.2 b0 (by omega) (by omega)).trans c4
 have bp:=(kB.2 pp (by omega) (by omega)).trans hp
 have d5:=(keep (b0+1) (by omega) (by omega)).trans c5
 have d11:=(keep (b0+5) (by omega) (by omega)).trans c11
 have slC:=sl.keep (by omega) fun p h1 h2=>keep p h2 (by omega)
 have mm:=R.mm
 have m2:=R.m2
 have lowR:=fun k hk=>EnsR.low R fe.fi A.inj mc' lm.1 nm (k:=k) hk
 have hI':P' 8≠0→P' 8 ∉ T:=fun w=>by
  rcases R.p8 with w2|⟨_,k,k1,k2,k3⟩
  ·rw[w2] at w ⊢; exact hI w
  ·rw[k3]; exact bT k (by omega) (by omega)
 have plE:plc V' P' (off / 256) i1 (i+1 - off / 256)=plc V P (off / 256) i1 (i - off / 256)++[(bi,fb)]:=by
  rw[show i+1 - off / 256=(i - off / 256)+1 by omega,Zvv (V:=V) (P:=P) fun k hk=>R.oth _ (by omega) (by omega),show off / 256+(i - off / 256)=i by omega,←hbi,hfb]
  congr 3
  rw[decide_eq_decide]
  omega
 have mb':m'≤m0+2 * (max i1 (i+1) - i1):=by
  cases hb:fb with
  | false =>
   have:=(R.old hb).2.2
   omega
  | true =>
   rw[hb] at hfb
   have:=of_decide_eq_true hfb.symm
   omega
 have fe2:max (max i1 i) (i+1)=max i1 (i+1):=by omega
 rw[fe2] at fe'
 have sg:∀ {hD:Go.Ev.H},hC.next≤hD.next→(∀ p,p<hC.next→p≠b0+1→hD.get p=hC.get p)→∃ c' h',Uj (hD.new (.row 2 [rowP (bi,fb)] false)) (some ti65) s (.slice hD.next 0 1 2)=some (.w (.c c'),h')∧SlP (b0+10) h' c' (plc V' P' (off / 256) i1 (i+1 - off / 256))∧hD.next≤h'.next∧(∀ p,p<b0+10→h'.get p=hD.get p)∧∀ p y,p<hD.next→hD.get p=some (.row 4 [y] false)→h'.get p=some (.row 4 [y] false):=fun {hD} nD kD=>by
  have:=Z2i (slC.keep nD fun p h1 h2=>kD p h2 (by omega)) (by omega) (by rw[Zp9]; omega) (bi,fb)
  rw[←plE] at this
  exact this
 have sf:=Z18 _ _ _ _ sl
 have kl:hC.get (b0+9)=h.get (b0+9):=keep _ (by omega) (by omega)
 have k6:hC.get (b0+6)=h.get (b0+6):=keep _ (by omega) (by omega)
 have k7:hC.get (b0+7)=h.get (b0+7):=keep _ (by omega) (by omega)
 have c8':∃ y,y.length=16∧hC.get (b0+2)=some (.row 16 [y] false):=by
  obtain⟨y,y1,y2⟩:=c8
  exact⟨y,y1,(keep _ (by omega) (by omega)).trans y2⟩
 have c9':=(keep (b0+3) (by omega) (by omega)).trans c9
 have c10':=(keep (b0+4) (by omega) (by omega)).trans c10
 have c4'':=(keep b0 (by omega) (by omega)).trans c4
 have df':=(keep (b0+8) (by omega) (by omega)).trans df
 have kp':∀ p,p<b0→Out n q p→hC.get p=h0.get p:=fun p hp ho=>(kC.2 p (by omega) ho).trans ((kB.2 p (by omega) ho.1.1).trans (kp p hp ho))
 have k4r:∀ p y,b0+10≤p→p<h.next→h.get p=some (.row 4 [y] false)→hC.get p=some (.row 4 [y] false):=fun p y h1 h2 h3=>(keep p h2 (by omega)).trans h3
 have fin:∀ {hD hG:Go.Ev.H} {c':C},hC.next≤hD.next→(∀ p,p<hC.next→p≠b0+1→hD.get p=hC.get p)→hD.get (b0+1)=some (.row 16 [x'] false)→SlP (b0+10) hG c' (plc V' P' (off / 256) i1 (i+1 - off / 256))→hD.next≤hG.next→(∀ p,p<b0+10→hG.get p=hD.get p)→(∀ p y,p<hD.next→hD.get p=some (.row 4 [y] false)→hG.get p=some (.row 4 [y] false))→(hG.put (b0+5) (.row 1 [[c']] false)).get (b0+9)=h.get (b0+9)∧(∃ V P x m s,EnJ n q a b c e cr md S T Al blk F lo m0 i0 i1 off len b0 V0 x0 h0 (pcN off len d) (hG.put (b0+5) (.row 1 [[c']] false)) V P x m s)∧h.next≤(hG.put (b0+5) (.row 1 [[c']] false)).next∧(hG.put (b0+5) (.row 1 [[c']] false)).get (b0+6)=h.get (b0+6)∧(hG.put (b0+5) (.row 1 [[c']] false)).get (b0+7)=h.get (b0+7)∧∀ p y,b0+10≤p→p<h.next→h.get p=some (.row 4 [y] false)→(hG.put (b0+5) (.row 1 [[c']] false)).get p=some (.row 4 [y] false):=fun {hD hG c'} nD kD d5' sG nG kG rG=>by
  have kk:∀ p,p<b0+10→p≠b0+1→p≠b0+5→(hG.put (b0+5) (.row 1 [[c']] false)).get p=hC.get p:=fun p h1 h2 h3=>by rw[Zp h3,kG p h1,kD p (by omega) h2]
  refine⟨(kk _ (by omega) (by omega) (by omega)).trans kl,⟨V',P',x',m',c',?_⟩,by rw[H.Zj]; omega,(kk _ (by omega) (by omega) (by omega)).trans k6,(kk _ (by omega) (by omega) (by omega)).trans k7,fun p y h1 h2 h3=>?_⟩
  ·refine⟨MC.keep (by rw[H.Zj]; omega) (fun p hp=>kk p (by omega) (by omega) (by omega)),al',⟨by omega,by omega⟩,by rw[xn2]; exact mb',X',fun j hj=>(cs' j hj).trans (cs j hj),by rw[xn2]; exact fe',hI',by omega,pn.2,fun k hk=>(lowR k hk).trans (fr k hk),?_,(kk _ (by omega) (by omega) (by omega)).trans c4'',?_,?_,(kk _ (by omega) (by omega) (by omega)).trans c9',(kk _ (by omega) (by omega) (by omega)).trans c10',Z8 ..,(kk _ (by omega) (by omega) (by omega)).trans df',by rw[H.Zj]; omega,fun p hp ho=>(kk p (by omega) (by omega) (by omega)).trans (kp' p hp ho)⟩
   ·rw[xn2]
    exact sG.keep (by rw[H.Zj]; omega) fun p h1 h2=>Zp (by omega)
   ·rw[Zp (by omega),kG _ (by omega)]; exact d5'
   ·obtain⟨y,y1,y2⟩:=c8'
    exact⟨y,y1,(kk _ (by omega) (by omega) (by omega)).trans y2⟩
  ·rw[Zp (by omega)]
   exact rG p y (by omega) ((kD p (by omega) (by omega)).trans (k4r p y h1 h2 h3))
 rcases ere with rfl|rfl
 all_goals
  iterate 2 (first|apply Goes.seq|apply Goes.block)
  refine Goes.ops2 fits Hh (Zt Zc c4') (by
   iterate 11 (refine Zz (by simp (maxSteps:=9^6) +decide (disch:=first|omega|(simp only[lens]<;>omega)|decide) only [go_sem,Za,simprocAttr,Zy,Y7,t4,t5,t8,t9,t10,t11,t12,c4,c5,hp,b4,b5,bp,rI,pl,xl,xl',d5,d11,Zx,Zh]<;>rfl) ?_)
   exact Z0) ?_
  iterate 2 (apply Goes.seq)
  refine Goes.ops2 fits Hh Zc (by
   iterate 6 (refine Zz (by simp (maxSteps:=9^6) +decide (disch:=first|omega|(simp only[lens]<;>omega)|decide) only [go_sem,Za,simprocAttr,Y7,t4,t5,t8,t9,t10,t11,t12,c4,c5,hp,b4,b5,bp,rI,pl,xl,xl',d5,d11,Zx,Zh]<;>rfl) ?_)
   exact Z0) ?_
  iterate 3 (first|apply Goes.seq|apply Goes.skip|(apply Goes.Zm; · simp (maxSteps:=9^6) +decide (disch:=first|omega|(simp only[lens]<;>omega)|decide) only [go_sem,Za,simprocAttr,Y7,t4,t5,t8,t9,t10,t11,t12,c4,c5,hp,b4,b5,bp,rI,pl,xl,xl',d5,d11,Zx,Zh]<;>rfl))
  refine Goes.ops2 fits Hh (Zt Zc c7) (by
   iterate 16 (refine Zz (by simp (maxSteps:=9^6) +decide (disch:=first|omega|(simp only[lens]<;>omega)|decide) only [go_sem,Za,simprocAttr,Zy,Y7,t4,t5,t8,t9,t10,t11,t12,c4,c5,hp,b4,b5,bp,rI,pl,xl,xl',d5,d11,Zx,Zh]<;>rfl) ?_)
   exact Z0) ?_
  iterate 7 (first|apply Goes.seq|apply Goes.skip|((first|apply Goes.Zm|apply Goes.ops2 fits Hh Zc); · simp (maxSteps:=9^6) +decide (disch:=first|omega|(simp only[lens]<;>omega)|decide) only [go_sem,Za,simprocAttr,Y7,t4,t5,t8,t9,t10,t11,t12,c4,c5,hp,b4,b5,bp,rI,pl,xl,xl',d5,d11,Zx,Zh]<;>rfl))
  refine Goes.abs fun hD eD=>?_
  have nD:hC.next≤hD.next:=by rw[eD]; simp only[H.Zj,H.Zg]<;>omega
  have kD:∀ p,p<hC.next→p≠b0+1→hD.get p=hC.get p:=fun p hp hne=>by rw[eD]; simp (disch:=first|omega|(simp only[lens]<;>omega)) only [go_sem]
  have D5:hD.get (b0+1)=some (.row 16 [x'] false):=by rw[eD]; first|exact Z8 .. | (simp (maxSteps:=9^6) +decide (disch:=first|omega|(simp only[lens]<;>omega)|decide) only [go_sem,Zb,Za,simprocAttr]; done)|(simp (maxSteps:=9^6) +decide (disch:=first|omega|(simp only[lens]<;>omega)|decide) only [go_sem,Zb,Za,simprocAttr]<;>rfl)
  clear eD
  have D11:=(kD (b0+5) (by omega) (by omega)).trans d11
  obtain⟨c',hG,ap,sG,nG,kG,rG⟩:=sg nD kD
  have G11:=(kG (b0+5) (by omega)).trans D11
  obtain⟨g1,g2,g3,g4,g5,g6⟩:=fin nD kD D5 sG nG kG rG
  refine Goes.ops2 fits Hh Zc (by
   iterate 7 (refine Zz (by simp (maxSteps:=9^6) +decide (disch:=first|omega|(simp only[lens]<;>omega)|decide) only [go_sem,Za,simprocAttr,Y7,t4,t5,t8,t9,t10,t11,t12,c4,c5,hp,b4,b5,bp,rI,pl,xl,xl',d5,d11,D11,ap,sf,Z2e,Z3t,G11,Zx,Zh]<;>rfl) ?_)
   exact Z0) ?_
  refine⟨rfl,?_⟩
  exact⟨g1,g2,g3,g4,g5,g6⟩
structure EnR (n q a b c e:Nat) (cr:Cr) (md:Int) (S T:List Nat) (Al:(Nat→List Nat)→Nat→Prop) (blk:Nat→Nat) (F:Nat→Nat) (lo m0 i0 i1 off len:Nat) (V0:Nat→List Nat) (x0:List C) (h h':Go.Ev.H) (V:Nat→List Nat) (P:Nat→Nat) (x:List C) (m:Nat) (s:C):Prop where
 M:HE n q a b c e cr md S T V h'
 al:Al V m
 lm:lo≤m∧m0≤m
 mb:m≤m0+2 * ((off+len+255) / 256 - i1)
 X:InoP x P
 cs:∀ j,j<4∨15≤j→x[j]? = x0[j]?
 fe:FilE blk V P F lo m i0 i1 ((off+len+255) / 256)
 hI:P 8≠0→P 8 ∉ T
 fr:∀ k,k<lo→V (blk k)=V0 (blk k)
 sl:SlP h.next h' s (plc V P (off / 256) i1 ((off+len+255) / 256 - off / 256))
 kp:Kp n q h h'
theorem Z1l (f:Y4 a b c e=true) (m1:md≠0) (A:Alc n q a b c e cr md S Al blk cap mt nk) (M:HE n q a b c e cr md S T V h) (al:Al V m0) (lm:lo≤m0) (bT:∀ k,m0≤k→k<cap→blk k ∉ T) (hT:∀ z,mt z→z ∉ T) (b32:∀ k,k<cap→blk k<4096) (mc:m0+2 * ((off+len+255) / 256 - i1)+2≤cap) (hx:i0≤off / 256∧(off / 256=i1∨off / 256+1=i1)) (o36:off+len≤36 * 256) (len0:0<len) (X:InoP x0 P) (fe:FilE blk V P F lo m0 i0 i1 i1) (hI:P 8≠0→P 8 ∉ T) :
  ∃ h' V' P' x' m' s,Ze K Tryz.prog 13 [.c (.ptr (n+13) 0),.g x0,.c (.int .i64 (off:Int)),.c (.int .i64 (len:Int))] h (.tup [.g x',.c s,.c (.int .i64 0)]) h'∧EnR n q a b c e cr md S T Al blk F lo m0 i0 i1 off len V x0 h h' V' P' x' m' s:=by
 obtain⟨nq,nx,n0⟩:=M.nx
 have xl:=X.xl
 have c2:=fun h=>Zbg Hh off len h
 have xn0:xnD off 0=off / 256:=if_pos rfl
 have fe0:FilE blk V P F lo m0 i0 i1 (max i1 (xnD off 0)):=by rw[xn0,show max i1 (off / 256)=i1 by omega]; exact fe
 obtain⟨v,h',cc,V',P',x',m',s,rfl,R⟩:∃ v h',Ze K Tryz.prog 13 [.c (.ptr (n+13) 0),.g x0,.c (.int .i64 (off:Int)),.c (.int .i64 (len:Int))] h v h'∧∃ V' P' x' m' s,v=.tup [.g x',.c s,.c (.int .i64 0)]∧EnR n q a b c e cr md S T Al blk F lo m0 i0 i1 off len V x0 h h' V' P' x' m' s:=by
  refine Ze.Yi fits Hh (by kernel_rfl) (by kernel_rfl) (by kernel_rfl) (show Tryz.f13.body=some _ from rfl) rfl ?_
  iterate 6 (first|apply Goes.seq|(apply Goes.ops2 fits Hh Zc; · simp (maxSteps:=9^6) +decide (disch:=first|omega|(simp only[lens]<;>omega)|decide) only [go_sem,Za,simprocAttr,Y7,xl,Zx]<;>rfl))
  iterate 2 (first|apply Goes.block|(apply Goes.ops2 fits Hh (J6 Zc c2); · simp (maxSteps:=9^6) +decide (disch:=first|omega|(simp only[lens]<;>omega)|decide) only [go_sem,Za,simprocAttr,Y7,xl,Zx]<;>rfl))
  refine Goes.abs fun hC eC=>?_
  have nC:hC.next=h.next+8:=by rw[eC]; simp only[H.Zj,H.Zg]
  have kC:∀ m,m<h.next→hC.get m=h.get m:=fun m hm=>by rw[eC]; simp (disch:=first|omega|(simp only[lens]<;>omega)) only [go_sem]
  have a4:hC.get h.next=some (.row 1 [[.ptr (n+13) 0]] false):=by rw[eC]; simp (maxSteps:=9^6) +decide (disch:=first|omega|(simp only[lens]<;>omega)|decide) only [go_sem,Zb,Za,simprocAttr]<;>rfl
  have a5:hC.get (h.next+1)=some (.row 16 [x0] false):=by rw[eC]; simp (maxSteps:=9^6) +decide (disch:=first|omega|(simp only[lens]<;>omega)|decide) only [go_sem,Za,simprocAttr,xl]<;>rfl
  obtain⟨y8,y8l,a8⟩:∃ y:List C,y.length=16∧hC.get (h.next+2)=some (.row 16 [y] false):=⟨_,rfl,by rw[eC]; simp (maxSteps:=9^6) +decide (disch:=first|omega|(simp only[lens]<;>omega)|decide) only [go_sem,Za,simprocAttr]<;>rfl⟩
  have a9:hC.get (h.next+3)=some (.row 1 [[.snil]] false):=by rw[eC]; simp (maxSteps:=9^6) +decide (disch:=first|omega|(simp only[lens]<;>omega)|decide) only [go_sem,Zb,Za,simprocAttr]<;>rfl
  have a10:hC.get (h.next+4)=some (.row 1 [[.int .i64 0]] false):=by rw[eC]; simp (maxSteps:=9^6) +decide (disch:=first|omega|(simp only[lens]<;>omega)|decide) only [go_sem,Zb,Za,simprocAttr]<;>rfl
  have a11:hC.get (h.next+5)=some (.row 1 [[.snil]] false):=by rw[eC]; simp (maxSteps:=9^6) +decide (disch:=first|omega|(simp only[lens]<;>omega)|decide) only [go_sem,Zb,Za,simprocAttr]<;>rfl
  have a6:hC.get (h.next+6)=some (.row 1 [[.int .i64 (off:Int)]] false):=by rw[eC]; simp (maxSteps:=9^6) +decide (disch:=first|omega|(simp only[lens]<;>omega)|decide) only [go_sem,Zb,Za,simprocAttr]<;>rfl
  have a7:hC.get (h.next+7)=some (.row 1 [[.int .i64 (len:Int)]] false):=by rw[eC]; simp (maxSteps:=9^6) +decide (disch:=first|omega|(simp only[lens]<;>omega)|decide) only [go_sem,Zb,Za,simprocAttr]<;>rfl
  clear eC
  have ne:(q13 [1,1,0,1,2,6])≠(q13 [1,1,0,1,2,5]):=fun e1=>by
   rw[Zm1,Zmf] at e1
   cases e1
  show Goes K Tryz.prog 63 none (q13 [1,1,0,1,2]) _ _ _ _
  rw[Zr7]
  refine Zwi fun ts hts=>?_
  have ET:EnT h.next ts:=by
   rw[hts]
   exact⟨by simp (maxSteps:=9^6) +decide (disch:=first|omega|(simp only[lens]<;>omega)|decide) only [go_sem,Zb,Za,simprocAttr]<;>rfl,by simp (maxSteps:=9^6) +decide (disch:=first|omega|(simp only[lens]<;>omega)|decide) only [go_sem,Zb,Za,simprocAttr]<;>rfl,by simp (maxSteps:=9^6) +decide (disch:=first|omega|(simp only[lens]<;>omega)|decide) only [go_sem,Zb,Za,simprocAttr]<;>rfl,by simp (maxSteps:=9^6) +decide (disch:=first|omega|(simp only[lens]<;>omega)|decide) only [go_sem,Zb,Za,simprocAttr]<;>rfl,by simp (maxSteps:=9^6) +decide (disch:=first|omega|(simp only[lens]<;>omega)|decide) only [go_sem,Zb,Za,simprocAttr]<;>rfl,by simp (maxSteps:=9^6) +decide (disch:=first|omega|(simp only[lens]<;>omega)|decide) only [go_sem,Zb,Za,simprocAttr]<;>rfl⟩
  have e20:Zv K ts (.tmp 20)=some (.fn 37 [] [some (h.next+6+1,0),some (h.next+6,0)]):=by
   rw[hts]
   simp (maxSteps:=9^6) +decide (disch:=first|omega|(simp only[lens]<;>omega)|decide) only [go_sem,Zb,Za,simprocAttr]<;>rfl
  refine (Zjc Hh (off:=off) (len:=len) (bO:=h.next+6) (ts:=ts) (I:=fun d h2=>∃ V2 P2 x2 m2 s2,EnJ n q a b c e cr md S T Al blk F lo m0 i0 i1 off len h.next V x0 h d h2 V2 P2 x2 m2 s2) (JT:=fun ts' pp=>EnT h.next ts'∧Zk ts' 12=.w (.c (.ptr pp 0))) ne (by omega) (by omega) (by omega) ?_ ?_ ?_ nC a6 a7 e20 ?_).mono ?_
  ·exact fun d h1 h2 ⟨V2,P2,x2,m2,s2,J⟩ nx' k=>⟨V2,P2,x2,m2,s2,J.keep nx nx' k⟩
  ·exact fun u h1 ul=>(enA Hh (h.next+6+3) ts u ul h1).mono fun x' ds' ts' h' ⟨e1,e2,t1,t12,n1,k1,r1⟩=>⟨e1,e2,⟨⟨(t1 4 (by decide)).trans ET.t4,(t1 5 (by decide)).trans ET.t5,(t1 8 (by decide)).trans ET.t8,(t1 9 (by decide)).trans ET.t9,(t1 10 (by decide)).trans ET.t10,(t1 11 (by decide)).trans ET.t11⟩,t12⟩,n1,k1,r1⟩
  ·exact fun d ts' h1 pp dl ⟨E',t12⟩ hp p1 p2 ⟨V2,P2,x2,m2,s2,J⟩=>enB Hh f m1 A bT hT b32 (.inr mc) hx o36 nx nq dl E' t12 hp ⟨p1,p2⟩ J
  ·exact fun h2 n2 d2 k2=>⟨V,P,x0,m0,.snil,M.keep (by omega) fun p hp=>(k2 p (by omega)).trans (kC p (by omega)),al,⟨lm,Nat.le_refl _⟩,by omega,X,fun _ _=>rfl,fe0,hI,.inl rfl,by omega,fun _ _=>rfl,.inl ⟨by rw[xn0,Nat.sub_self]; rfl,rfl⟩,(k2 _ (by omega)).trans a4,(k2 _ (by omega)).trans a5,⟨y8,y8l,(k2 _ (by omega)).trans a8⟩,(k2 _ (by omega)).trans a9,(k2 _ (by omega)).trans a10,(k2 _ (by omega)).trans a11,d2,n2,fun p hp _=>(k2 p (by omega)).trans (kC p hp)⟩
  rintro x1 ds1 ts1 h1 ⟨rfl,rfl,rfl,V',P',x',m',s,J⟩
  subst hts
  obtain⟨M',al',lm',mb',X',cs',fe',hI',al8',dl',fr',sl',c4',c5',⟨y,yl,c8'⟩,c9',c10',c11',df',nx',kp'⟩:=J
  have xl':=X'.xl
  have xe:xnD off len=(off+len+255) / 256:=if_neg (by omega)
  have xm:max i1 ((off+len+255) / 256)=(off+len+255) / 256:=by omega
  rw[xe] at mb' fe' sl'
  rw[xm] at mb' fe'
  have gd':h1.get (h.next+6+2)=some .defers:=df'
  iterate 3 (first|apply Goes.seq|apply Goes.ret|(apply Goes.drawn2 fits Hh Zc (by kernel_rfl); · simp (maxSteps:=9^6) +decide (disch:=first|omega|(simp only[lens]<;>omega)|decide) only [go_sem,Za,simprocAttr,drG,Y7,xl,c5',c8',c9',c10',c11',gd',xl',yl,Zx]<;>rfl))
  refine⟨_,_,(by simp (maxSteps:=9^6) +decide (disch:=first|omega|(simp only[lens]<;>omega)|decide) only [go_sem,Za,simprocAttr,gd',Y7,xl']<;>rfl),V',P',x',m',s,rfl,?_⟩
  refine⟨M'.keep ?_ fun p hp=>?_,al',lm',mb',X',cs',fe',hI',fr',?_,⟨?_,fun p hp ho=>?_⟩⟩
  ·simp only[H.Zj,H.Zg,H.Zr]<;>omega
  ·simp (disch:=first|omega|(simp only[lens]<;>omega)) only [go_sem]
  ·refine SlP.mono (sl'.keep ?_ fun p h1 h2=>?_) (by omega)
   ·simp only[H.Zj,H.Zg,H.Zr]<;>omega
   ·simp (disch:=first|omega|(simp only[lens]<;>omega)) only [go_sem]
  ·simp only[H.Zj,H.Zg,H.Zr]<;>omega
  ·refine Eq.trans ?_ (kp' p hp ho); simp (disch:=first|omega|(simp only[lens]<;>omega)) only [go_sem]
 exact⟨h',V',P',x',m',s,cc,R⟩
end
end Go.Proofs.YtgikjeaipmeclaaGreatDoor
