/- data.Write, of bytes that go on where the file ends, or into a file that has no block. -/
import Derived.Test.YtgikjeaipmeclaaGreatDoorDen
set_option linter.unusedSimpArgs false
set_option linter.unusedVariables false
set_option linter.unusedSectionVars false
set_option maxRecDepth 100000
set_option maxHeartbeats 4000000
namespace Go.Proofs.YtgikjeaipmeclaaGreatDoor
open Go.Ev
noncomputable def q7 (p:List Nat):Code:=piece p (Uq Tryz.f7)
theorem Zfr:q7 [1,1,1,1,1,1,1,0,1,2]=.rangeFunc (.tmp 73) #[74] (q7 [1,1,1,1,1,1,1,0,1,2,5]) (q7 [1,1,1,1,1,1,1,0,1,2,6]):=by kernel_rfl
theorem Zdi:q7 [1,1,1,1,1,1,1,0,1,2,5]=.region 16 (Zru (q7 [1,1,1,1,1,1,1,0,1,2,5])) false:=by kernel_rfl
theorem Zdb:q7 [1,1,1,1,1,1,1,0,1,2,6]=.block 1 (q7 [1,1,1,1,1,1,1,0,1,2,6,2]):=by kernel_rfl
theorem rs7:Tryz.f7.results.toList=[.cell 8 37,.cell 9 38]:=rfl
attribute [go_sem] rs7
theorem Ny {x:List C} {z:Int}:O8 x=some z ↔ x.length=16∧x[3]? = some (.int .i64 z):=by
 constructor
 ·intro h
  unfold O8 at h
  split at h
  ·cases h; exact⟨rfl,rfl⟩
  ·cases h
 ·rintro⟨l,h⟩
  match x,l with
  | [_,_,_,a,_,_,_,_,_,_,_,_,_,_,_,_],_ =>
   have:a=.int .i64 z:=Option.some.inj h
   subst this
   rfl
theorem Zqu {x:List C} (xl:x.length=16) (z:Int):O8 (x.set 3 (.int .i64 z))=some z:=Ny.2 ⟨by rw[List.length_set]; exact xl,List.getElem?_set_self (by omega)⟩
theorem InoP.size {x:List C} {P:Nat→Nat} (X:InoP x P) (c:C):InoP (x.set 3 c) P:=⟨by rw[List.length_set]; exact X.xl,fun i hi=>by rw[List.getElem?_set_ne (by omega)]; exact X.pt i hi,X.pb⟩
theorem Z1o {l:List (Nat × Bool)} {i:Nat} {x:Nat × Bool} (h:l[i]? = some x):Zb 2 (l.map rowP) (i * 2) 2=some (rowP x):=by
 unfold Zb
 rw[show Nat.beq 2 0=false from rfl,cond_false,Nat.mul_div_cancel _ (by decide),Nat.mul_mod_left,List.getElem?_map,h]
 rfl
theorem Z05 {V:Nat→List Nat} {P:Nat→Nat} {x0 i1 c k:Nat} (h:k<c):(plc V P x0 i1 c)[k]? = some (Je V P (x0+k),decide (i1≤x0+k)):=by
 unfold plc
 rw[List.getElem?_map,List.getElem?_range h]
 rfl
structure FwJ (n q a b c e:Nat) (cr:Cr) (md:Int) (S T:List Nat) (Al:(Nat→List Nat)→Nat→Prop) (blk:Nat→Nat) (F:Nat→Nat) (lo m i0 i1 i2 off len b0 b1 mm ba:Nat) (w:List Nat) (V0:Nat→List Nat) (P:Nat→Nat) (x y:List C) (s:C) (h0:Go.Ev.H) (d:Nat) (h:Go.Ev.H) (V:Nat→List Nat) (T':List Nat):Prop where
 M:HE n q a b c e cr md S T' V h
 al:Al V m
 fe:FilE blk V P (wrF F off w ba d) lo m i0 (max i1 (xnD off d)) i2
 hV:P 8≠0→V (P 8)=V0 (P 8)
 tT:∀ z∈T',z∈T∨∃ j,i0≤j∧j<i2∧z=Je V0 P j
 t3:md=3→T'=T
 al8:d=0∨d=len∨(off+d) % 256=0
 dl:d≤len
 fr:∀ k,k<lo→V (blk k)=V0 (blk k)
 sl:SlP b0 h s (plc V0 P (off / 256) i1 (i2 - off / 256))
 hm:h.get mm=some (.row 1 (bsE w) false)
 c4:h.get b0=some (.row 1 [[.ptr (n+13) 0]] false)
 c5:h.get (b0+1)=some (.row 16 [x] false)
 c7:h.get (b0+2)=some (.row 1 [[.slice mm ba len 1]] false)
 c8:∃ y,y.length=16∧h.get (b0+3)=some (.row 16 [y] false)
 c9:h.get (b0+4)=some (.row 1 [[.int .i64 0]] false)
 c11:h.get b1=some (.row 16 [y] false)
 c12:h.get (b1+1)=some (.row 1 [[s]] false)
 c16:h.get (b1+2)=some (.row 1 [[.int .i64 ((xnD off d - off / 256:Nat):Int)]] false)
 df:h.get (b1+5)=some .defers
 nx:b1+7≤h.next
 kp:∀ p,p<b0→Out n q p→h.get p=h0.get p
structure FwT (b0 b1:Nat) (ts:Zu):Prop where
 t4:Zk ts 4=.w (.c (.ptr b0 0))
 t5:Zk ts 5=.w (.c (.ptr (b0+1) 0))
 t7:Zk ts 7=.w (.c (.ptr (b0+2) 0))
 t8:Zk ts 8=.w (.c (.ptr (b0+3) 0))
 t9:Zk ts 9=.w (.c (.ptr (b0+4) 0))
 t11:Zk ts 11=.w (.c (.ptr b1 0))
 t12:Zk ts 12=.w (.c (.ptr (b1+1) 0))
 t16:Zk ts 16=.w (.c (.ptr (b1+2) 0))
section
variable (Hh:Hearts K Tryz.prog)
include Hh
variable {n q a b c e:Nat} {cr:Cr} {md:Int} {S T T':List Nat} {V V0:Nat→List Nat} {Al:(Nat→List Nat)→Nat→Prop} {blk:Nat→Nat} {cap:Nat} {mt nk:Nat→Prop} {F:Nat→Nat} {P:Nat→Nat} {lo m0 i0 i1 i2 off len b0 b1 m d mm ba size:Nat} {w:List Nat} {x y x0:List C} {h0 h h2:Go.Ev.H} {s:C}
omit Hh in
theorem FwJ.keep (J:FwJ n q a b c e cr md S T Al blk F lo m i0 i1 i2 off len b0 b1 mm ba w V0 P x y s h0 d h V T') (bq:q+9≤b0∧b0+5≤b1∧mm<b0) (nx:h.next≤h2.next) (k:∀ p,p<h.next→p≠b1+6→h2.get p=h.get p) (sb:∀ p o l z,s=.slice p o l z→p<b1):FwJ n q a b c e cr md S T Al blk F lo m i0 i1 i2 off len b0 b1 mm ba w V0 P x y s h0 d h2 V T':=by
 obtain⟨M,al,fe,hV,tT,t3,al8,dl,fr,sl,hm,c4,c5,c7,c8,c9,c11,c12,c16,df,nx',kp⟩:=J
 have kk:∀ p,p<b1+6→h2.get p=h.get p:=fun p hp=>k p (by omega) (by omega)
 refine⟨M.keep nx fun p hp=>kk p (by omega),al,fe,hV,tT,t3,al8,dl,fr,?_,(kk _ (by omega)).trans hm,(kk _ (by omega)).trans c4,(kk _ (by omega)).trans c5,(kk _ (by omega)).trans c7,?_,(kk _ (by omega)).trans c9,(kk _ (by omega)).trans c11,(kk _ (by omega)).trans c12,(kk _ (by omega)).trans c16,(kk _ (by omega)).trans df,by omega,fun p hp ho=>(kk p (by omega)).trans (kp p hp ho)⟩
 ·exact sl.move nx fun p o n z w=>kk p (by have:=sb _ _ _ _ w; omega)
 ·obtain⟨y,y1,y2⟩:=c8
  exact⟨y,y1,(kk _ (by omega)).trans y2⟩
theorem fwA (l:Nat) (ts:Zu) (u:List C) (ul:u.length=4) (h:Go.Ev.H):Goes K Tryz.prog 100 (some l) (q7 [1,1,1,1,1,1,1,0,1,2,5]) [] (ts.set 74 (.w (.g u))) h fun x ds' ts' h'=>x=.normal∧ds'=[]∧(∀ s,s≤16→Zk ts' s=Zk ts s)∧Zk ts' 17=.w (.c (.ptr h.next 0))∧h'.next=h.next+1∧(∀ m,m<h.next→h'.get m=h.get m)∧h'.get h.next=some (.row 4 [u] false):=by
 have ut:u.take 4=u:=List.take_of_length_le (by omega)
 have wr4:Z4 4 [[.int .i64 0,.int .i64 0,.int .i64 0,.int .i64 0]] 0 u=some [u]:=by
  match u,ul with
  | [u0,u1,u2,u3],_=>rfl
 (apply Goes.ops2 fits Hh Zc; · simp (maxSteps:=9^6) +decide (disch:=first|omega|(simp only[lens]<;>omega)|decide) only [go_sem,Za,simprocAttr,ul,ut,wr4]<;>rfl)
 refine⟨rfl,rfl,fun s hs=>?_,?_,?_,fun m hm=>?_,?_⟩
 ·simp (decide:=true) only [Yo hs]
 ·simp (maxSteps:=9^6) +decide (disch:=first|omega|(simp only[lens]<;>omega)|decide) only [go_sem,Zb,Za,simprocAttr]
 ·simp only[H.Zj,H.Zg]
 ·simp (disch:=first|omega|(simp only[lens]<;>omega)) only [go_sem]
 ·first|exact Z8 .. | (simp (maxSteps:=9^6) +decide (disch:=first|omega|(simp only[lens]<;>omega)|decide) only [go_sem,Zb,Za,simprocAttr]; done)|(simp (maxSteps:=9^6) +decide (disch:=first|omega|(simp only[lens]<;>omega)|decide) only [go_sem,Zb,Za,simprocAttr]<;>rfl)
theorem Z06 (f:Y4 a b c e=true) (A:Alc n q a b c e cr md S Al blk cap mt nk) (mc:m≤cap) (hx:i0≤off / 256∧(off / 256=i1∨off / 256+1=i1)) (ho:off / 256+1=i1→size=off∧0<off % 256∧∀ p,off≤p→F p=0) (hz2:∀ p,i1 * 256≤p→F p=0) (xend:(off+d) / 256<i2) (z3:md=3→T'=[]) (s16:size≤9216) (mq:q+9≤mm∧mm<h.next) (wl:ba+len≤w.length) (dl:d<len) (al0:d=0∨(off+d) % 256=0)
  (M:HE n q a b c e cr md S T' V h) (fe:FilE blk V P (wrF F off w ba d) lo m i0 (max i1 ((off+d) / 256)) i2) (hm:h.get mm=some (.row 1 (bsE w) false)) {i z:Nat} (hi:(off+d) / 256=i) (hzz:Je V P i=z) :
  ∃ ns h',Ze K Tryz.prog 16 [.c (.ptr (n+13) 0),.c (.int .i64 (size:Int)),.g [.int .i64 (z:Int),.bool (decide (i1≤i))],.g (pcC off len d),.c (.slice mm ba len 1)] h (.w (.c (.int .i64 0))) h'∧HE n q a b c e cr md S (Bi md T' z) (Gn V z ns) h'∧Kp n q h h'∧FilE blk (Gn V z ns) P (wrF F off w ba (pcN off len d)) lo m i0 (max i1 (i+1)) i2:=by
 have m8:=Nat.mod_lt (off+d) (show 0<256 by decide)
 have dm:=Nat.div_add_mod (off+d) 256
 have xge:off / 256≤(off+d) / 256:=Nat.div_le_div_right (by omega)
 have xd0:d=0∨off / 256+1≤(off+d) / 256:=by omega
 have i36:=fe.ii.2.2
 have fnew:=Zwq (F:=F) (off:=off) (len:=len) (d:=d) (ba:=ba) (l:=len) (w:=w) dl wl (Nat.le_refl _)
 have ffill:=fun ns=>fe.fill (ns:=ns) (len:=len) dl
 have pce:(off+d) % 256<pcE off len d∧pcE off len d≤256∧d+(pcE off len d - (off+d) % 256)≤len:=by unfold pcE; omega
 have rI:pcC off len d=[.int .i64 (i:Int),.int .i64 (((off+d) % 256:Nat):Int),.int .i64 ((pcE off len d:Nat):Int),.int .i64 (d:Int)]:=by rw[←hi]; rfl
 rw[hi] at xge xend xd0 fnew ffill fe
 have bzn:Je V P i≠0:=fe.hang i (by omega) (by omega)
 obtain⟨kz,kz0,kz1,kz2⟩:=(fe.fi.bl i (by omega)).resolve_left bzn
 obtain⟨o1,o2,o3,o4,o5⟩:=A.ours kz (by omega)
 rw[←kz2] at o1 o2 o3 o4 o5
 have z8:=fe.fi.d8 i (by omega) bzn
 rw[hzz] at o1 o2 o3 o4 o5 z8 ffill bzn
 have zt:md=3→z ∉ T':=fun w=>by rw[z3 w]; simp
 have mx:max (max i1 i) (i+1)=max i1 (i+1):=by clear ffill fnew; omega
 have hc:i=max i1 i∨i+1=max i1 i:=by
  clear ffill fnew
  rcases xd0 with w|w
  ·subst w; rw[Nat.add_zero] at hi; omega
  ·omega
 rw[mx] at ffill
 by_cases nw:i1≤i
 ·rw[decide_eq_true nw,rI]
  obtain⟨h',cc,M',k'⟩:=Zxi Hh f M o1 o2 o5 zt (size:=(size:Int)) (ix:=(i:Int)) pce.1 pce.2.1 pce.2.2 hm mq wl
  exact⟨_,h',cc,M',k',ffill _ ⟨by omega,xend⟩ hc (fnew (fun p hp=>hz2 p (by omega)) al0)⟩
 ·have d0:d=0:=by omega
  subst d0
  rw[Nat.add_zero] at hi
  obtain⟨so,s0,sF⟩:=ho (by omega)
  have cb:=fe.cont i (by omega) (by omega)
  rw[Tg,hzz] at cb
  have vl:=M.len o1 o2
  rw[decide_eq_false nw,rI]
  have fo:=Zwl (F:=F) (off:=off) (len:=len) (ba:=ba) (l:=len) (w:=w) (ns:=V z) dl wl (Nat.le_refl _) sF vl (by rw[hi]; exact cb)
  rw[hi] at fo
  obtain⟨h',cc,M',k'⟩:=Zx8 Hh f M o1 o2 o5 zt (size:=size) (x:=i) (cu:=off % 256) (by omega) (Nat.le_trans s16 (by decide)) s0 (by omega) pce.1 pce.2.1 pce.2.2 hm mq wl
  exact⟨_,h',cc,M',k',ffill _ ⟨by omega,xend⟩ hc fo⟩
theorem fwB (f:Y4 a b c e=true) (A:Alc n q a b c e cr md S Al blk cap mt nk) (mc:m≤cap) (hx:i0≤off / 256∧(off / 256=i1∨off / 256+1=i1)) (ho:off / 256+1=i1→size=off∧0<off % 256∧∀ p,off≤p→F p=0) (hz2:∀ p,i1 * 256≤p→F p=0) (hi2:i2=(off+len+255) / 256) (z3:md=3→T=[]) (hs:O8 x=some (size:Int)) (s16:size≤9216) (bq:q+9≤b0∧b0+5≤b1∧mm<b0) (mq:q+9≤mm) (nq:n+23≤q) (wl:ba+len≤w.length) (dl:d<len) {ts:Zu} {l pp:Nat} (E:FwT b0 b1 ts) (t17:Zk ts 17=.w (.c (.ptr pp 0))) (hp:h.get pp=some (.row 4 [pcC off len d] false)) (pb:b1+7≤pp∧pp<h.next) (sb:∀ p o l z,s=.slice p o l z→p<b1)
  (J:FwJ n q a b c e cr md S T Al blk F lo m i0 i1 i2 off len b0 b1 mm ba w V0 P x y s h0 d h V T') :
  Goes K Tryz.prog 100 (some l) (q7 [1,1,1,1,1,1,1,0,1,2,6]) [] ts h fun x' _ _ h'=>x'=.normal∧h'.get (b1+6)=h.get (b1+6)∧(∃ V T',FwJ n q a b c e cr md S T Al blk F lo m i0 i1 i2 off len b0 b1 mm ba w V0 P x y s h0 (pcN off len d) h' V T')∧h.next≤h'.next∧h'.get (b1+3)=h.get (b1+3)∧h'.get (b1+4)=h.get (b1+4)∧∀ p y,b1+7≤p→p<h.next→h.get p=some (.row 4 [y] false)→h'.get p=some (.row 4 [y] false):=by
 obtain⟨t4,t5,t7,t8,t9,t11,t12,t16⟩:=E
 obtain⟨M,al,fe,hV,tT,t3,al8,dl',fr,sl,hm,c4,c5,c7,c8,c9,c11,c12,c16,df,nx',kp⟩:=J
 have al0:d=0∨(off+d) % 256=0:=by omega
 obtain⟨xn,xn2,al2⟩:=Zos dl al0
 have pn:=Zip (off:=off) dl
 have xge:off / 256≤(off+d) / 256:=Nat.div_le_div_right (by omega)
 have xend:(off+d) / 256<i2:=by omega
 rw[xn] at fe c16
 obtain⟨i,hi⟩:∃ i,(off+d) / 256=i:=⟨_,rfl⟩
 obtain⟨z,hzz⟩:∃ z,Je V P i=z:=⟨_,rfl⟩
 obtain⟨ns,hB,c17,MB,kB,fe'⟩:=Z06 Hh f A mc hx ho hz2 xend (fun w=>by rw[t3 w,z3 w]) s16 ⟨mq,by omega⟩ wl dl al0 M fe hm hi hzz
 have i36:=fe.ii.2.2
 rw[hi] at xn xn2 xge xend c16 fe
 have bz:Je V P i=Je V0 P i:=Ba hV (by omega)
 have bzn:Je V P i≠0:=fe.hang i (by omega) (by omega)
 obtain⟨kz,kz0,kz1,kz2⟩:=(fe.fi.bl i (by omega)).resolve_left bzn
 have o4:=(A.ours kz (by omega)).2.2.2.1
 have z8:=fe.fi.d8 i (by omega) bzn
 have at1:=Z05 (V:=V0) (P:=P) (x0:=off / 256) (i1:=i1) (c:=i2 - off / 256) (k:=i - off / 256) (by omega)
 rw[show off / 256+(i - off / 256)=i by omega,←bz] at at1
 have pll:=Zp9 V0 P (off / 256) i1 (i2 - off / 256)
 have rdp:=Z1o at1
 obtain⟨L,hL⟩:∃ L,plc V0 P (off / 256) i1 (i2 - off / 256)=L:=⟨_,rfl⟩
 have sl0:=sl
 rw[hL] at sl0 rdp pll
 obtain⟨pL,s1,s2,s3,s4,s5⟩:=sl0.resolve_left (fun w=>by rw[w.1] at pll; simp only[List.length_nil] at pll; omega)
 have pLb:=sb _ _ _ _ s2
 rw[←kz2] at o4
 rw[hzz] at o4 z8 rdp bzn
 obtain⟨xl,rx⟩:=Jq hs
 have keep:∀ p,p<h.next→q+9≤p→hB.get p=h.get p:=fun p hp hq=>kB.2 p hp ⟨⟨by omega,by omega,by omega,by omega,by omega⟩,by omega⟩
 have nB:=kB.1
 have pl:(pcC off len d).length=4:=rfl
 obtain⟨u,hu⟩:∃ u,pcC off len d=u:=⟨_,rfl⟩
 rw[hu] at c17 hp pl
 have b16:=(keep (b1+2) (by omega) (by omega)).trans c16
 have e1:((i - off / 256:Nat):Int)+1=((i+1 - off / 256:Nat):Int):=by omega
 have h':∃ h',hB.put (b1+2) (.row 1 [[.int .i64 ((i+1 - off / 256:Nat):Int)]] false)=h':=⟨_,rfl⟩
 have fin:∀ h',hB.put (b1+2) (.row 1 [[.int .i64 ((i+1 - off / 256:Nat):Int)]] false)=h'→h'.get (b1+6)=h.get (b1+6)∧(∃ V T',FwJ n q a b c e cr md S T Al blk F lo m i0 i1 i2 off len b0 b1 mm ba w V0 P x y s h0 (pcN off len d) h' V T')∧h.next≤h'.next∧h'.get (b1+3)=h.get (b1+3)∧h'.get (b1+4)=h.get (b1+4)∧∀ p y,b1+7≤p→p<h.next→h.get p=some (.row 4 [y] false)→h'.get p=some (.row 4 [y] false):=by
  intro h' eh
  have kk:∀ p,p<h.next→q+9≤p→p≠b1+2→h'.get p=h.get p:=fun p h1 h2 h3=>by rw[←eh,Zp h3]; exact keep p h1 h2
  have k2:∀ p,p≠b1+2→h'.get p=hB.get p:=fun p h3=>by rw[←eh,Zp h3]
  have n2:h'.next=hB.next:=by rw[←eh,H.Zj]
  refine⟨kk _ (by omega) (by omega) (by omega),⟨Gn V z ns,Bi md T' z,?_⟩,by omega,kk _ (by omega) (by omega) (by omega),kk _ (by omega) (by omega) (by omega),fun p y h1 h2 h3=>(kk _ h2 (by omega) (by omega)).trans h3⟩
  refine⟨MB.keep (by omega) fun p hp=>k2 p (by omega),A.upd al o4,by rw[xn2]; exact fe',fun w=>(Oo (Ne.symm z8)).trans (hV w),fun z' hz'=>?_,fun w=>?_,by omega,pn.2,fun k' hk'=>?_,sl.move (by omega) (fun p o n z e=>?_),(kk _ (by omega) (by omega) (by omega)).trans hm,(kk _ (by omega) (by omega) (by omega)).trans c4,(kk _ (by omega) (by omega) (by omega)).trans c5,(kk _ (by omega) (by omega) (by omega)).trans c7,?_,(kk _ (by omega) (by omega) (by omega)).trans c9,(kk _ (by omega) (by omega) (by omega)).trans c11,(kk _ (by omega) (by omega) (by omega)).trans c12,by rw[xn2,←eh]; exact Z8 ..,(kk _ (by omega) (by omega) (by omega)).trans df,by omega,fun p hp ho=>by rw[k2 p (by omega),kB.2 p (by omega) ho]; exact kp p hp ho⟩
  ·rcases Zua hz' with w|w
   ·exact .inr ⟨i,by omega,by omega,w.trans (hzz.symm.trans bz)⟩
   ·exact tT z' w
  ·unfold Bi
   rw[if_pos w]; exact t3 w
  ·rw[Oo fun e=>?_]
   ·exact fr k' hk'
   ·rw[←hzz,kz2] at e
    have:=A.inj k' kz (by omega) (by omega) e
    omega
  ·rw[s2] at e
   cases e
   exact kk _ (by omega) (by omega) (by omega)
  ·obtain⟨y8,y1,y2⟩:=c8
   exact⟨y8,y1,(kk _ (by omega) (by omega) (by omega)).trans y2⟩
 clear h' fe fe' bz bzn kz2 at1 al hV tT t3 fr z8 o4 hz2 ho M MB keep kB hi2 hx xge
 obtain⟨k,hk⟩:∃ k,i - off / 256=k:=⟨_,rfl⟩
 obtain⟨k',hk'⟩:∃ k',i+1 - off / 256=k':=⟨_,rfl⟩
 rw[hk,hk'] at e1
 rw[hk] at c16 b16 rdp
 rw[hk'] at fin
 have kL:k<L.length:=by omega
 have rp:rowP (z,decide (i1≤i))=[.int .i64 (z:Int),.bool (decide (i1≤i))]:=rfl
 rw[rp] at rdp
 obtain⟨dec,hdec⟩:∃ dec,decide (i1≤i)=dec:=⟨_,rfl⟩
 rw[hdec] at rdp c17
 obtain⟨LL,hLL⟩:∃ LL,L.length=LL:=⟨_,rfl⟩
 rw[hLL] at kL s2
 have R2:(L.map rowP).length=LL:=by rw[List.length_map]; exact hLL
 obtain⟨R,hR⟩:∃ R,L.map rowP=R:=⟨_,rfl⟩
 rw[hR] at rdp s3 R2
 rw[s2] at c12
 iterate 3 (first|apply Goes.seq|apply Goes.block)
 iterate 6 (first|apply Goes.seq|apply Goes.skip|((first|apply Goes.Zm|apply Goes.ops2 fits Hh (Zt Zc c17)); · simp (maxSteps:=9^6) +decide (disch:=first|omega|(simp only[lens]<;>omega)|decide) only [go_sem,Za,simprocAttr,Zy,Y7,t4,t5,t7,t8,t9,t11,t12,t16,t17,c4,c5,c7,c12,c16,b16,hp,s3,rdp,rx,pl,xl,e1,Zx]<;>rfl)|(apply Goes.drawn2 fits Hh (Zt Zc c17) (by kernel_rfl); · simp (maxSteps:=9^6) +decide (disch:=first|omega|(simp only[lens]<;>omega)|decide) only [go_sem,Za,simprocAttr,drG,Zy,Y7,t4,t5,t7,t8,t9,t11,t12,t16,t17,c4,c5,c7,c12,c16,b16,hp,s3,rdp,rx,pl,xl,e1,Zx]<;>rfl))
 exact⟨rfl,fin _ rfl⟩
structure WrR (n q a b c e:Nat) (cr:Cr) (md:Int) (S T:List Nat) (Al:(Nat→List Nat)→Nat→Prop) (blk:Nat→Nat) (F:Nat→Nat) (lo m0 i0 i1 off len size ba:Nat) (w:List Nat) (V0:Nat→List Nat) (x0:List C) (h h':Go.Ev.H) (V:Nat→List Nat) (P:Nat→Nat) (x:List C) (m:Nat) (T':List Nat):Prop where
 M:HE n q a b c e cr md S T' V h'
 al:Al V m
 lm:lo≤m∧m0≤m
 mb:m≤m0+2 * ((off+len+255) / 256 - i1)
 X:InoP x P
 cs:∀ j,j<3∨15≤j→x[j]? = x0[j]?
 sz:O8 x=some ((max size (off+len):Nat):Int)
 fs:FilS blk V P (wrF F off w ba len) lo m i0 ((off+len+255) / 256)
 hI:P 8≠0→P 8 ∉ T'
 tT:∀ z∈T',z∈T∨∃ k,lo≤k∧k<m∧z=blk k
 t3:md=3→T'=T
 fr:∀ k,k<lo→V (blk k)=V0 (blk k)
 kp:Kp n q h h'
theorem Z0j (f:Y4 a b c e=true) (A:Alc n q a b c e cr md S Al blk cap mt nk) {hA hE h1:Go.Ev.H} {P':Nat→Nat} {x':List C} {V1:Nat→List Nat} (R:EnR n q a b c e cr md S T Al blk F lo m0 i0 i1 off len V0 x hA hE V1 P' x' m s) (mc:m≤cap) (hx:i0≤off / 256∧(off / 256=i1∨off / 256+1=i1)) (ho:off / 256+1=i1→size=off∧0<off % 256∧∀ p,off≤p→F p=0) (fo:∀ p,¬ (i0 * 256≤p∧p<i1 * 256)→F p=0) (o36:off+len≤36 * 256) (len0:0<len) (z3:md=3→T=[]) (hs:O8 x=some (size:Int)) (s16:size≤9216) (bq:q+9≤b0∧hA.next=b0+5∧hE.next=b1∧mm<b0) (mq:q+9≤mm) (nq:n+23≤q) (wl:ba+len≤w.length) {ts:Zu}
  (t4:Zk ts 4=.w (.c (.ptr b0 0))) (t5:Zk ts 5=.w (.c (.ptr (b0+1) 0))) (t7:Zk ts 7=.w (.c (.ptr (b0+2) 0))) (t8:Zk ts 8=.w (.c (.ptr (b0+3) 0))) (t9:Zk ts 9=.w (.c (.ptr (b0+4) 0))) (t11:Zk ts 11=.w (.c (.ptr b1 0))) (t12:Zk ts 12=.w (.c (.ptr (b1+1) 0))) (t2:Zk ts 2=.w (.c (.int .i64 (off:Int))))
  (n1:h1.next=b1+2) (k1:∀ p,p<b1→h1.get p=hE.get p) (c4:hA.get b0=some (.row 1 [[.ptr (n+13) 0]] false)) (c5:hA.get (b0+1)=some (.row 16 [x] false)) (c7:hA.get (b0+2)=some (.row 1 [[.slice mm ba len 1]] false)) (c8:∃ y:List C,y.length=16∧hA.get (b0+3)=some (.row 16 [y] false)) (c9:hA.get (b0+4)=some (.row 1 [[.int .i64 0]] false)) (c11:h1.get b1=some (.row 16 [x'] false)) (c12:h1.get (b1+1)=some (.row 1 [[s]] false)) (hm:hA.get mm=some (.row 1 (bsE w) false)) (kA:∀ p,p<b0→hA.get p=h.get p) (nA:h.next=b0) :
  Goes K Tryz.prog 100 none (q7 [1,1,1,1,1,1]) [] ts h1 fun x1 ds ts h2=>∃ v h',leave K Tryz.f7 (some (Out.at x1 ds ts h2))=some (Out.val v h')∧∃ V' P' x' m' T',v=.tup [.g x',.c (.int .i64 0)]∧WrR n q a b c e cr md S T Al blk F lo m0 i0 i1 off len size ba w V0 x h h' V' P' x' m' T':=by
 obtain⟨M,al,lm,mb,X,cs,fe,hI,fr,sl,kp⟩:=R
 obtain⟨bq,bA,bE,bm⟩:=bq
 have keep:∀ p,p<b0+5→q+9≤p→h1.get p=hA.get p:=fun p hp hq=>(k1 p (by have:=kp.1; omega)).trans (kp.2 p (by omega) ⟨⟨by omega,by omega,by omega,by omega,by omega⟩,by omega⟩)
 have nE:=kp.1
 have d4:=(keep _ (by omega) (by omega)).trans c4
 have d5:=(keep _ (by omega) (by omega)).trans c5
 have d7:=(keep _ (by omega) (by omega)).trans c7
 have dm:=(keep mm (by omega) (by omega)).trans hm
 have d9:=(keep _ (by omega) (by omega)).trans c9
 obtain⟨y8,y8l,c8⟩:=c8
 have d8:=(keep _ (by omega) (by omega)).trans c8
 obtain⟨xl,rx⟩:=Jq hs
 have xl':=X.xl
 have sx':O8 x'=some (size:Int):=Ny.2 ⟨xl',(cs 3 (by omega)).trans (Ny.1 hs).2⟩
 have rx':=(Jq sx').2
 have c15:=fun h=>Zbg Hh off len h
 have lfy:=Vu
 have sb:∀ p o l z,s=.slice p o l z→p<b1:=fun p o l z e=>by
  rcases sl with ⟨_,w⟩|⟨p',_,w,_,_,w2⟩
  ·rw[w] at e; cases e
  ·rw[w] at e; cases e; omega
 have xn0:xnD off 0=off / 256:=if_pos rfl
 have xe:xnD off len=(off+len+255) / 256:=if_neg (by omega)
 obtain⟨i2,hi2⟩:∃ i2,i2=(off+len+255) / 256:=⟨_,rfl⟩
 rw[←hi2] at fe sl mb xe
 have i2b:off / 256<i2:=by omega
 have fe0:FilE blk V1 P' (wrF F off w ba 0) lo m i0 (max i1 (xnD off 0)) i2:=by rw[Tg,xn0,show max i1 (off / 256)=i1 by omega]; exact fe
 have hz2:∀ p,i1 * 256≤p→F p=0:=fun p hp=>fo p (by omega)
 have es:(off:Int)+(len:Int)=((off+len:Nat):Int):=rfl
 have mx:(if ((off+len:Nat):Int) > (size:Int) then ((off+len:Nat):Int) else (size:Int))=((max size (off+len):Nat):Int):=by split<;>omega
 have w3:Z4 16 [x'] 3 [.int .i64 ((max size (off+len):Nat):Int)]=some [x'.set 3 (.int .i64 ((max size (off+len):Nat):Int))]:=by
  show (bif Nat.blt 3 x'.length then some [x'.set 3 _] else none)=_
  rw[xl']; rfl
 have Xs:=X.size (.int .i64 ((max size (off+len):Nat):Int))
 have ss:=Zqu xl' ((max size (off+len):Nat):Int)
 have cs':∀ j,j<3∨15≤j→(x'.set 3 (.int .i64 ((max size (off+len):Nat):Int)))[j]? = x[j]?:=fun j hj=>by rw[List.getElem?_set_ne (by omega)]; exact cs j (by omega)
 have out:∀ p,¬ (i0 * 256≤p∧p<i2 * 256)→wrF F off w ba len p=0:=fun p hp=>by
  unfold wrF
  rw[if_neg (by omega)]
  exact fo p (by omega)
 obtain⟨X3,hX3⟩:∃ X3,x'.set 3 (.int .i64 ((max size (off+len):Nat):Int))=X3:=⟨_,rfl⟩
 rw[hX3] at w3 Xs ss cs'
 have X3l:=Xs.xl
 have X3t:X3.take 16=X3:=List.take_of_length_le (by omega)
 iterate 4 (first|apply Goes.seq|(apply Goes.ops2 fits Hh Zc; · simp (maxSteps:=9^6) +decide (disch:=first|omega|(simp only[lens]<;>omega)|decide) only [go_sem,Za,simprocAttr,Y7,t2,t4,t5,t7,t8,t9,t11,t12,d4,d5,d7,d8,d9,c11,c12,lfy,xl',Zx,Zh,Ye]<;>rfl))
 iterate 2 (first|apply Goes.block|(apply Goes.ops2 fits Hh (J6 Zc c15); · simp (maxSteps:=9^6) +decide (disch:=first|omega|(simp only[lens]<;>omega)|decide) only [go_sem,Za,simprocAttr,Y7,t2,t4,t5,t7,t8,t9,t11,t12,d4,d5,d7,d8,d9,c11,c12,lfy,xl',Zx,Zh,Ye]<;>rfl))
 refine Goes.abs fun hC eC=>?_
 have nC:hC.next=b1+3+2:=by rw[eC]; simp only[H.Zj,H.Zg,n1]
 have kC:∀ p,p<b1+2→hC.get p=h1.get p:=fun m hm=>by rw[eC]; simp (disch:=first|omega|(simp only[lens]<;>omega)) only [go_sem]
 have a16:hC.get (b1+2)=some (.row 1 [[.int .i64 0]] false):=by rw[eC]; simp (maxSteps:=9^6) +decide (disch:=first|omega|(simp only[lens]<;>omega)|decide) only [go_sem,Zb,Za,simprocAttr,n1]<;>rfl
 have a6:hC.get (b1+3)=some (.row 1 [[.int .i64 (off:Int)]] false):=by rw[eC]; simp (maxSteps:=9^6) +decide (disch:=first|omega|(simp only[lens]<;>omega)|decide) only [go_sem,Zb,Za,simprocAttr,n1]<;>rfl
 have a7:hC.get (b1+3+1)=some (.row 1 [[.int .i64 (len:Int)]] false):=by rw[eC]; simp (maxSteps:=9^6) +decide (disch:=first|omega|(simp only[lens]<;>omega)|decide) only [go_sem,Zb,Za,simprocAttr,n1]<;>rfl
 clear eC
 have ne:(q7 [1,1,1,1,1,1,1,0,1,2,6])≠(q7 [1,1,1,1,1,1,1,0,1,2,5]):=fun e1=>by
  rw[Zdb,Zdi] at e1
  cases e1
 show Goes K Tryz.prog 100 none (q7 [1,1,1,1,1,1,1,0,1,2]) _ _ _ _
 rw[Zfr]
 refine Zwi fun ts9 hts=>?_
 have ET:FwT b0 b1 ts9:=by
  rw[hts]
  exact⟨by simp (maxSteps:=9^6) +decide (disch:=first|omega|(simp only[lens]<;>omega)|decide) only [go_sem,Zb,Za,simprocAttr,t4]<;>rfl,by simp (maxSteps:=9^6) +decide (disch:=first|omega|(simp only[lens]<;>omega)|decide) only [go_sem,Zb,Za,simprocAttr,t5]<;>rfl,by simp (maxSteps:=9^6) +decide (disch:=first|omega|(simp only[lens]<;>omega)|decide) only [go_sem,Zb,Za,simprocAttr,t7]<;>rfl,by simp (maxSteps:=9^6) +decide (disch:=first|omega|(simp only[lens]<;>omega)|decide) only [go_sem,Zb,Za,simprocAttr,t8]<;>rfl,by simp (maxSteps:=9^6) +decide (disch:=first|omega|(simp only[lens]<;>omega)|decide) only [go_sem,Zb,Za,simprocAttr,t9]<;>rfl,by simp (maxSteps:=9^6) +decide (disch:=first|omega|(simp only[lens]<;>omega)|decide) only [go_sem,Zb,Za,simprocAttr,t11]<;>rfl,by simp (maxSteps:=9^6) +decide (disch:=first|omega|(simp only[lens]<;>omega)|decide) only [go_sem,Zb,Za,simprocAttr,t12]<;>rfl,by simp (maxSteps:=9^6) +decide (disch:=first|omega|(simp only[lens]<;>omega)|decide) only [go_sem,Zb,Za,simprocAttr,n1]<;>rfl⟩
 have e20:Zv K ts9 (.tmp 73)=some (.fn 37 [] [some (b1+3+1,0),some (b1+3,0)]):=by
  rw[hts]
  simp (maxSteps:=9^6) +decide (disch:=first|omega|(simp only[lens]<;>omega)|decide) only [go_sem,Zb,Za,simprocAttr,n1]<;>rfl
 have slC:SlP b0 hC s (plc V1 P' (off / 256) i1 (i2 - off / 256)):=(sl.mono (by omega)).move (by omega) fun p o l z w=>by
  have:=sb p o l z w
  rw[kC p (by omega),k1 p (by omega)]
 refine (Zjc Hh (off:=off) (len:=len) (bO:=b1+3) (ts:=ts9) (I:=fun d h2=>∃ V T',FwJ n q a b c e cr md S T Al blk F lo m i0 i1 i2 off len b0 b1 mm ba w V1 P' x x' s h d h2 V T') (JT:=fun ts' pp=>FwT b0 b1 ts'∧Zk ts' 17=.w (.c (.ptr pp 0))) ne (by omega) (by omega) (by omega) ?_ ?_ ?_ nC a6 a7 e20 ?_).mono ?_
 ·exact fun d h1 h2 ⟨V,T',J⟩ nx' k=>⟨V,T',J.keep ⟨bq,by omega,bm⟩ nx' k sb⟩
 ·exact fun u h1 ul=>(fwA Hh (b1+3+3) ts9 u ul h1).mono fun x' ds' ts' h' ⟨e1,e2,t1,t12,n1,k1,r1⟩=>⟨e1,e2,⟨⟨(t1 4 (by decide)).trans ET.t4,(t1 5 (by decide)).trans ET.t5,(t1 7 (by decide)).trans ET.t7,(t1 8 (by decide)).trans ET.t8,(t1 9 (by decide)).trans ET.t9,(t1 11 (by decide)).trans ET.t11,(t1 12 (by decide)).trans ET.t12,(t1 16 (by decide)).trans ET.t16⟩,t12⟩,n1,k1,r1⟩
 ·exact fun d ts' h1 pp dl ⟨E',t12⟩ hp p1 p2 ⟨V,T',J⟩=>fwB Hh f A mc hx ho hz2 hi2 z3 hs s16 ⟨bq,by omega,bm⟩ mq nq wl dl E' t12 hp ⟨p1,p2⟩ sb J
 ·exact fun h2 n2 d2 k2=>⟨V1,T,(M.keep (by omega) fun p hp=>(k2 p (by omega)).trans ((kC p (by omega)).trans (k1 p (by omega)))),al,fe0,fun _=>rfl,fun z hz=>.inl hz,fun _=>rfl,.inl rfl,by omega,fun _ _=>rfl,slC.move (by omega) (fun p o l z w=>k2 p (by have:=sb p o l z w; omega)),(k2 _ (by omega)).trans ((kC _ (by omega)).trans dm),(k2 _ (by omega)).trans ((kC _ (by omega)).trans d4),(k2 _ (by omega)).trans ((kC _ (by omega)).trans d5),(k2 _ (by omega)).trans ((kC _ (by omega)).trans d7),⟨y8,y8l,(k2 _ (by omega)).trans ((kC _ (by omega)).trans d8)⟩,(k2 _ (by omega)).trans ((kC _ (by omega)).trans d9),(k2 _ (by omega)).trans ((kC _ (by omega)).trans c11),(k2 _ (by omega)).trans ((kC _ (by omega)).trans c12),by rw[xn0,Nat.sub_self]; exact (k2 _ (by omega)).trans a16,d2,n2,fun p hp ho=>(k2 p (by omega)).trans ((kC p (by omega)).trans ((k1 p (by omega)).trans ((kp.2 p (by omega) ho).trans (kA p hp))))⟩
 rintro x1 ds1 tsb h9 ⟨rfl,rfl,rfl,V',T',J⟩
 subst hts
 obtain⟨M',al',fe',hV',tT',t3',al8',dl',fr',sl',hm',c4',c5',c7',⟨y9,y9l,c8'⟩,c9',c11',c12',c16',df',nx',kp'⟩:=J
 have gd':h9.get (b1+3+2)=some .defers:=df'
 rw[xe,show max i1 i2=i2 by omega] at fe'
 iterate 5 (first|apply Goes.seq|apply Goes.ret|(apply Goes.ops2 fits Hh Zc; · simp (maxSteps:=9^6) +decide (disch:=first|omega|(simp only[lens]<;>omega)|decide) only [go_sem,Za,simprocAttr,Y7,t2,t4,t5,t7,t8,t9,t11,t12,d4,d5,d7,d8,d9,c11,c12,lfy,xl',c5',c7',c8',c9',c11',gd',xl',rx',es,mx,w3,X3l,y9l,Zx,Zh,Ye]<;>rfl))
 refine⟨_,_,(by simp (maxSteps:=9^6) +decide (disch:=first|omega|(simp only[lens]<;>omega)|decide) only [go_sem,Za,simprocAttr,gd',Y7,X3l,t8,t9]<;>rfl),V',P',X3,m,T',rfl,?_⟩
 refine⟨M'.keep ?_ fun p hp=>?_,al',lm,by rw[←hi2]; exact mb,Xs,cs',ss,by rw[←hi2]; exact fe'.done out,fun w1 w2=>?_,fun z hz=>?_,t3',fun k hk=>(fr' k hk).trans (fr k hk),⟨?_,fun p hp ho=>?_⟩⟩
 ·simp only[H.Zj,H.Zg,H.Zr]<;>omega
 ·simp (disch:=first|omega|(simp only[lens]<;>omega)) only [go_sem]
 ·rcases tT' _ w2 with w|⟨j,j0,j1,w⟩
  ·exact hI w1 w
  ·exact fe.fi.d8 j (by have:=fe.ii.2.2; omega) (fe.hang j j0 j1) w.symm
 ·rcases tT' _ hz with w|⟨j,j0,j1,w⟩
  ·exact .inl w
  ·obtain⟨k,k0,k1,k2⟩:=(fe.fi.bl j (by have:=fe.ii.2.2; omega)).resolve_left (fe.hang j j0 j1)
   exact .inr ⟨k,k0,k1,w.trans k2⟩
 ·simp only[H.Zj,H.Zg,H.Zr]<;>omega
 ·refine Eq.trans ?_ (kp' p (by omega) ho); simp (disch:=first|omega|(simp only[lens]<;>omega)) only [go_sem]
theorem Z3u (f:Y4 a b c e=true) (m1:md≠0) {h1:Go.Ev.H} {x':List C} {V1:Nat→List Nat} {ts:Zu} {Q:X→List Nat→Zu→Go.Ev.H→Prop} (M:HE n q a b c e cr md S T V1 h1) (hs:O8 x=some (size:Int)) (hs':O8 x'=some (size:Int)) (s16:size≤9216) (o36:off+len≤36 * 256) (bl:size / 256<off / 256→size % 256=0)
  (d4:h1.get b0=some (.row 1 [[.ptr (n+13) 0]] false)) (d5:h1.get (b0+1)=some (.row 16 [x] false)) (d7:h1.get (b0+2)=some (.row 1 [[.slice mm ba len 1]] false)) (d11:h1.get b1=some (.row 16 [x'] false)) (t2:Zk ts 2=.w (.c (.int .i64 (off:Int)))) (t4:Zk ts 4=.w (.c (.ptr b0 0))) (t5:Zk ts 5=.w (.c (.ptr (b0+1) 0))) (t7:Zk ts 7=.w (.c (.ptr (b0+2) 0))) (t11:Zk ts 11=.w (.c (.ptr b1 0)))
  (tl:∀ ts',(∀ s,s≤12→Zk ts' s=Zk ts s)→Goes K Tryz.prog 100 none (q7 [1,1,1,1,1,1]) [] ts' h1 Q):Goes K Tryz.prog 100 none (q7 [1,1,1,1,1]) [] ts h1 Q:=by
 obtain⟨st,⟨kn,hst⟩,⟨dk,gl⟩,ht⟩:=M.cells
 unfold gdL gdD at gl
 have dm:(md != 0)=true:=Xx m1
 obtain⟨xl,rx⟩:=Jq hs
 have xl':=(Jq hs').1
 have z0:decide ((0:Int)≤(size:Int))=true:=decide_eq_true (by omega)
 have lfy:=Vu
 have qs:Dz .i64 (size:Int) 256=some (.int .i64 ((size / 256:Nat):Int)):=Dn (a:=size) (b:=256) (by omega) (by omega)
 have qo:Dz .i64 (off:Int) 256=some (.int .i64 ((off / 256:Nat):Int)):=Dn (a:=off) (b:=256) (by omega) (by omega)
 have d1:decide ((off:Int)+(len:Int) > (size:Int))=decide (size<off+len):=by rw[decide_eq_decide]; omega
 have d2:decide (((size / 256:Nat):Int)<((off / 256:Nat):Int))=decide (size / 256<off / 256):=by rw[decide_eq_decide]; omega
 by_cases w:size<off+len∧size / 256<off / 256
 ·have zb:decide (((size:Nat):Int) % 256=0)=true:=decide_eq_true (by have:=bl w.2; omega)
  rw[decide_eq_true w.1] at d1
  rw[decide_eq_true w.2] at d2
  iterate 4 (first|apply Goes.seq|(apply Goes.ops2 fits Hh Zc; · simp (maxSteps:=9^6) +decide (disch:=first|omega|(simp only[lens]<;>omega)|decide) only [go_sem,Za,simprocAttr,f,Y7,hst,stG,gl,ht,txC,dm,xl,xl',rx,z0,zb,lfy,qs,qo,d1,d2,hs',d4,d5,d7,d11,t2,t4,t5,t7,t11,Zh,Ye]<;>rfl))
  refine Goes.ops2 fits Hh Zc (by
   iterate 13 (refine Zz (by simp (maxSteps:=9^6) +decide (disch:=first|omega|(simp only[lens]<;>omega)|decide) only [go_sem,Za,simprocAttr,f,Y7,hst,stG,gl,ht,txC,dm,xl,xl',rx,z0,zb,lfy,qs,qo,d1,d2,hs',d4,d5,d7,d11,t2,t4,t5,t7,t11,Zh,Ye]<;>rfl) ?_)
   exact Z0) ?_
  iterate 7 (first|apply Goes.seq|apply Goes.skip|((first|apply Goes.Zm|apply Goes.ops2 fits Hh (Zf Zc (fun _ _ _ _=>Zdt Hh))); · simp (maxSteps:=9^6) +decide (disch:=first|omega|(simp only[lens]<;>omega)|decide) only [go_sem,Za,simprocAttr,f,Y7,hst,stG,gl,ht,txC,dm,xl,xl',rx,z0,zb,lfy,qs,qo,d1,d2,hs',d4,d5,d7,d11,t2,t4,t5,t7,t11,Zh,Ye]<;>rfl))
  refine tl _ fun s hs=>?_
  simp (decide:=true) only [Yo hs]
 ·by_cases w1:size<off+len
  ·rw[decide_eq_true w1] at d1
   rw[decide_eq_false fun q=>w ⟨w1,q⟩] at d2
   iterate 4 (first|apply Goes.seq|(apply Goes.ops2 fits Hh Zc; · simp (maxSteps:=9^6) +decide (disch:=first|omega|(simp only[lens]<;>omega)|decide) only [go_sem,Za,simprocAttr,Y7,xl,rx,lfy,qs,qo,d1,d2,d4,d5,d7,t2,t4,t5,t7,Zh,Ye]<;>rfl))
   refine Goes.ops2 fits Hh Zc (by
    iterate 13 (refine Zz (by simp (maxSteps:=9^6) +decide (disch:=first|omega|(simp only[lens]<;>omega)|decide) only [go_sem,Za,simprocAttr,Y7,xl,rx,lfy,qs,qo,d1,d2,d4,d5,d7,t2,t4,t5,t7,Zh,Ye]<;>rfl) ?_)
    exact Z0) ?_
   iterate 2 (first|apply Goes.skip|(apply Goes.Zm; · simp (maxSteps:=9^6) +decide (disch:=first|omega|(simp only[lens]<;>omega)|decide) only [go_sem,Za,simprocAttr,Y7,xl,rx,lfy,qs,qo,d1,d2,d4,d5,d7,t2,t4,t5,t7,Zh,Ye]<;>rfl))
   refine tl _ fun s hs=>?_
   simp (decide:=true) only [Yo hs]
  ·rw[decide_eq_false w1] at d1
   iterate 4 (first|apply Goes.seq|(apply Goes.ops2 fits Hh Zc; · simp (maxSteps:=9^6) +decide (disch:=first|omega|(simp only[lens]<;>omega)|decide) only [go_sem,Za,simprocAttr,Y7,xl,rx,lfy,qs,qo,d1,d2,d4,d5,d7,t2,t4,t5,t7,Zh,Ye]<;>rfl))
   refine Goes.ops2 fits Hh Zc (by
    iterate 13 (refine Zz (by simp (maxSteps:=9^6) +decide (disch:=first|omega|(simp only[lens]<;>omega)|decide) only [go_sem,Za,simprocAttr,Y7,xl,rx,lfy,qs,qo,d1,d2,d4,d5,d7,t2,t4,t5,t7,Zh,Ye]<;>rfl) ?_)
    exact Z0) ?_
   iterate 2 (first|apply Goes.skip|(apply Goes.Zm; · simp (maxSteps:=9^6) +decide (disch:=first|omega|(simp only[lens]<;>omega)|decide) only [go_sem,Za,simprocAttr,Y7,xl,rx,lfy,qs,qo,d1,d2,d4,d5,d7,t2,t4,t5,t7,Zh,Ye]<;>rfl))
   refine tl _ fun s hs=>?_
   simp (decide:=true) only [Yo hs]
theorem Zj1 (f:Y4 a b c e=true) (m1:md≠0) (A:Alc n q a b c e cr md S Al blk cap mt nk) (M:HE n q a b c e cr md S T V h) (al:Al V m0) (lm:lo≤m0) (bT:∀ k,m0≤k→k<cap→blk k ∉ T) (hT:∀ z,mt z→z ∉ T) (b32:∀ k,k<cap→blk k<4096) (mc:m0+2 * ((off+len+255) / 256 - i1)+2≤cap) (hx:i0≤off / 256∧(off / 256=i1∨off / 256+1=i1)) (ho:off / 256+1=i1→size=off∧0<off % 256∧∀ p,off≤p→F p=0) (z3:md=3→T=[]) (X:InoP x0 P) (fs:FilS blk V P F lo m0 i0 i1) (hI:P 8≠0→P 8 ∉ T) (hs:O8 x0=some (size:Int)) (s16:size≤9216) (o36:off+len≤36 * 256) (len0:0<len) (l1k:len≤1024) (bl:size / 256<off / 256→size % 256=0) (hm:h.get mm=some (.row 1 (bsE w) false)) (mq:q+9≤mm∧mm<h.next) (wl:ba+len≤w.length) :
  ∃ h' V' P' x' m' T',Ze K Tryz.prog 7 [.c (.ptr (n+13) 0),.g x0,.c (.int .i64 (off:Int)),.c (.slice mm ba len 1)] h (.tup [.g x',.c (.int .i64 0)]) h'∧WrR n q a b c e cr md S T Al blk F lo m0 i0 i1 off len size ba w V x0 h h' V' P' x' m' T':=by
 obtain⟨nq,nx,n0⟩:=M.nx
 obtain⟨st,⟨kn,hst⟩,⟨dk,gl⟩,ht⟩:=M.cells
 unfold gdL gdD at gl
 have dm:(md != 0)=true:=Xx m1
 obtain⟨xl,rx⟩:=Jq hs
 have z0:decide ((0:Int)≤(size:Int))=true:=decide_eq_true (by omega)
 have z1:decide ((size:Int)≤16777216)=true:=decide_eq_true (by omega)
 have z2:decide ((0:Int)≤(off:Int))=true:=decide_eq_true (by omega)
 have z4:decide ((0:Int)≤(len:Int))=true:=decide_eq_true (by omega)
 have z5:decide ((len:Int)≤1024)=true:=decide_eq_true (by omega)
 have z6:decide ((off:Int)≤16777216 - (len:Int))=true:=decide_eq_true (by omega)
 have l0:((len:Int) == 0)=false:=Dx (by omega)
 have lfy:=Vu
 have hE0:=fun {hA:Go.Ev.H} (MA:HE n q a b c e cr md S T V hA)=>Z1l Hh (off:=off) (len:=len) f m1 A MA al lm bT hT b32 mc hx o36 len0 X fs.e hI
 obtain⟨v,h',cc,V',P',x',m',T',rfl,R⟩:∃ v h',Ze K Tryz.prog 7 [.c (.ptr (n+13) 0),.g x0,.c (.int .i64 (off:Int)),.c (.slice mm ba len 1)] h v h'∧∃ V' P' x' m' T',v=.tup [.g x',.c (.int .i64 0)]∧WrR n q a b c e cr md S T Al blk F lo m0 i0 i1 off len size ba w V x0 h h' V' P' x' m' T':=by
  refine Ze.Yi fits Hh (by kernel_rfl) (by kernel_rfl) (by kernel_rfl) (show Tryz.f7.body=some _ from rfl) rfl ?_
  apply Goes.seq
  refine Goes.ops2 fits Hh Zc (by
   iterate 5 (refine Zz (by simp (maxSteps:=9^6) +decide (disch:=first|omega|(simp only[lens]<;>omega)|decide) only [go_sem,Za,simprocAttr,f,Y7,hst,stG,gl,ht,txC,dm,xl,rx,z0,z1,z2,z4,z5,z6,l0,lfy,hs,Zx,Zh,Ye]<;>rfl) ?_)
   exact Z0) ?_
  iterate 2 (apply Goes.seq)
  refine Goes.ops2 fits Hh (Zf Zc (fun _ _ _ _=>Zhh Hh)) (by
   iterate 7 (refine Zz (by simp (maxSteps:=9^6) +decide (disch:=first|omega|(simp only[lens]<;>omega)|decide) only [go_sem,Za,simprocAttr,f,Y7,hst,stG,gl,ht,txC,dm,xl,rx,z0,z1,z2,z4,z5,z6,l0,lfy,hs,Zx,Zh,Ye]<;>rfl) ?_)
   exact Z0) ?_
  iterate 10 (first|apply Goes.seq|apply Goes.skip|((first|apply Goes.Zm|apply Goes.ops2 fits Hh Zc); · simp (maxSteps:=9^6) +decide (disch:=first|omega|(simp only[lens]<;>omega)|decide) only [go_sem,Za,simprocAttr,f,Y7,hst,stG,gl,ht,txC,dm,xl,rx,z0,z1,z2,z4,z5,z6,l0,lfy,hs,Zx,Zh,Ye]<;>rfl))
  refine Goes.abs fun hA eA=>?_
  have nA:hA.next=h.next+5:=by rw[eA]; simp only[H.Zj,H.Zg]
  have kA:∀ m,m<h.next→hA.get m=h.get m:=fun m hm=>by rw[eA]; simp (disch:=first|omega|(simp only[lens]<;>omega)) only [go_sem]
  have a4:hA.get h.next=some (.row 1 [[.ptr (n+13) 0]] false):=by rw[eA]; simp (maxSteps:=9^6) +decide (disch:=first|omega|(simp only[lens]<;>omega)|decide) only [go_sem,Zb,Za,simprocAttr]<;>rfl
  have a5:hA.get (h.next+1)=some (.row 16 [x0] false):=by rw[eA]; simp (maxSteps:=9^6) +decide (disch:=first|omega|(simp only[lens]<;>omega)|decide) only [go_sem,Za,simprocAttr,xl]<;>rfl
  have a7:hA.get (h.next+2)=some (.row 1 [[.slice mm ba len 1]] false):=by rw[eA]; simp (maxSteps:=9^6) +decide (disch:=first|omega|(simp only[lens]<;>omega)|decide) only [go_sem,Zb,Za,simprocAttr]<;>rfl
  have a8:∃ y:List C,y.length=16∧hA.get (h.next+3)=some (.row 16 [y] false):=⟨_,rfl,by rw[eA]; simp (maxSteps:=9^6) +decide (disch:=first|omega|(simp only[lens]<;>omega)|decide) only [go_sem,Za,simprocAttr]<;>rfl⟩
  have a9:hA.get (h.next+4)=some (.row 1 [[.int .i64 0]] false):=by rw[eA]; simp (maxSteps:=9^6) +decide (disch:=first|omega|(simp only[lens]<;>omega)|decide) only [go_sem,Zb,Za,simprocAttr]<;>rfl
  clear eA
  obtain⟨hE,V1,P',x',m',s,c6,R⟩:=hE0 (M.keep (h2:=hA) (by omega) fun p hp=>kA p (by omega))
  have xl':=R.X.xl
  have sx':O8 x'=some (size:Int):=Ny.2 ⟨xl',(R.cs 3 (by omega)).trans (Ny.1 hs).2⟩
  have kE:∀ p,p<h.next+5→q+9≤p→hE.get p=hA.get p:=fun p hp hq=>R.kp.2 p (by omega) ⟨⟨by omega,by omega,by omega,by omega,by omega⟩,by omega⟩
  have b4:=(kE h.next (by omega) (by omega)).trans a4
  have b5:=(kE (h.next+1) (by omega) (by omega)).trans a5
  have b7:=(kE (h.next+2) (by omega) (by omega)).trans a7
  have nE:=R.kp.1
  obtain⟨_,⟨knE,hsE⟩,⟨dkE,glE⟩,htE⟩:=R.M.cells
  unfold gdL gdD at glE
  obtain⟨bb,hbb⟩:∃ bb,hE.next=bb:=⟨_,rfl⟩
  refine Goes.ops2 fits Hh (Zt Zc c6) (by
   iterate 15 (refine Zz (by simp (maxSteps:=9^6) +decide (disch:=first|omega|(simp only[lens]<;>omega)|decide) only [go_sem,Za,simprocAttr,Zy,f,Y7,hst,stG,gl,ht,txC,dm,xl,rx,z0,z1,z2,z4,z5,z6,l0,lfy,hs,a4,a5,a7,b4,b5,b7,xl',sx',hsE,glE,htE,Zx,Zh,Ye]<;>rfl) ?_)
   exact Z0) ?_
  iterate 5 (first|apply Goes.seq|apply Goes.skip|((first|apply Goes.Zm|apply Goes.ops2 fits Hh Zc); · simp (maxSteps:=9^6) +decide (disch:=first|omega|(simp only[lens]<;>omega)|decide) only [go_sem,Za,simprocAttr,f,Y7,hst,stG,gl,ht,txC,dm,xl,rx,z0,z1,z2,z4,z5,z6,l0,lfy,hs,a4,a5,a7,b4,b5,b7,xl',sx',hsE,glE,htE,Zx,Zh,Ye]<;>rfl))
  refine Goes.abs fun h1 e1=>?_
  have n1:h1.next=hE.next+2:=by rw[e1]; simp only[H.Zj,H.Zg]
  have k1:∀ p,p<hE.next→h1.get p=hE.get p:=fun p hp=>by rw[e1]; simp (disch:=first|omega|(simp only[lens]<;>omega)) only [go_sem]
  have g11:h1.get hE.next=some (.row 16 [x'] false):=by rw[e1]; first|exact Z8 .. | (simp (maxSteps:=9^6) +decide (disch:=first|omega|(simp only[lens]<;>omega)|decide) only [go_sem,Za,simprocAttr,xl']; done)|(simp (maxSteps:=9^6) +decide (disch:=first|omega|(simp only[lens]<;>omega)|decide) only [go_sem,Za,simprocAttr,xl']<;>rfl)
  have g12:h1.get (hE.next+1)=some (.row 1 [[s]] false):=by rw[e1]; first|(simp (maxSteps:=9^6) +decide (disch:=first|omega|(simp only[lens]<;>omega)|decide) only [go_sem,Zb,Za,simprocAttr]; done)|(simp (maxSteps:=9^6) +decide (disch:=first|omega|(simp only[lens]<;>omega)|decide) only [go_sem,Zb,Za,simprocAttr]<;>rfl)
  clear e1
  refine Zwi fun ts hts=>?_
  have u2:Zk ts 2=.w (.c (.int .i64 (off:Int))):=by rw[hts]; simp (maxSteps:=9^6) +decide (disch:=first|omega|(simp only[lens]<;>omega)|decide) only [go_sem,Zb,Za,simprocAttr]<;>rfl
  have u4:Zk ts 4=.w (.c (.ptr h.next 0)):=by rw[hts]; simp (maxSteps:=9^6) +decide (disch:=first|omega|(simp only[lens]<;>omega)|decide) only [go_sem,Zb,Za,simprocAttr]<;>rfl
  have u5:Zk ts 5=.w (.c (.ptr (h.next+1) 0)):=by rw[hts]; simp (maxSteps:=9^6) +decide (disch:=first|omega|(simp only[lens]<;>omega)|decide) only [go_sem,Zb,Za,simprocAttr]<;>rfl
  have u7:Zk ts 7=.w (.c (.ptr (h.next+2) 0)):=by rw[hts]; simp (maxSteps:=9^6) +decide (disch:=first|omega|(simp only[lens]<;>omega)|decide) only [go_sem,Zb,Za,simprocAttr]<;>rfl
  have u8:Zk ts 8=.w (.c (.ptr (h.next+3) 0)):=by rw[hts]; simp (maxSteps:=9^6) +decide (disch:=first|omega|(simp only[lens]<;>omega)|decide) only [go_sem,Zb,Za,simprocAttr]<;>rfl
  have u9:Zk ts 9=.w (.c (.ptr (h.next+4) 0)):=by rw[hts]; simp (maxSteps:=9^6) +decide (disch:=first|omega|(simp only[lens]<;>omega)|decide) only [go_sem,Zb,Za,simprocAttr]<;>rfl
  have u11:Zk ts 11=.w (.c (.ptr hE.next 0)):=by rw[hts]; simp (maxSteps:=9^6) +decide (disch:=first|omega|(simp only[lens]<;>omega)|decide) only [go_sem,Zb,Za,simprocAttr]<;>rfl
  have u12:Zk ts 12=.w (.c (.ptr (hE.next+1) 0)):=by rw[hts]; simp (maxSteps:=9^6) +decide (disch:=first|omega|(simp only[lens]<;>omega)|decide) only [go_sem,Zb,Za,simprocAttr]<;>rfl
  clear hts
  refine Z3u Hh f m1 (R.M.keep (h2:=h1) (by omega) fun p hp=>k1 p (by have:=R.M.nx; omega)) hs sx' s16 o36 bl ((k1 _ (by omega)).trans b4) ((k1 _ (by omega)).trans b5) ((k1 _ (by omega)).trans b7) g11 u2 u4 u5 u7 u11 fun ts' ht=>?_
  exact Z0j Hh (b0:=h.next) (b1:=hE.next) (h:=h) (mm:=mm) f A R (by have:=R.mb; omega) hx ho fs.out o36 len0 z3 hs s16 ⟨nx,nA,rfl,mq.2⟩ mq.1 nq wl ((ht 4 (by decide)).trans u4) ((ht 5 (by decide)).trans u5) ((ht 7 (by decide)).trans u7) ((ht 8 (by decide)).trans u8) ((ht 9 (by decide)).trans u9) ((ht 11 (by decide)).trans u11) ((ht 12 (by decide)).trans u12) ((ht 2 (by decide)).trans u2) n1 k1 a4 a5 a7 a8 a9 g11 g12 ((kA mm mq.2).trans hm) kA rfl
 exact⟨h',V',P',x',m',T',cc,R⟩
end
end Go.Proofs.YtgikjeaipmeclaaGreatDoor
