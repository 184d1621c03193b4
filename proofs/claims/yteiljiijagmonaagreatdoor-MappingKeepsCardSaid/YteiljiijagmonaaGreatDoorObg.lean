/- disk.Load, slices.Clone of blocks. -/
import Derived.Test.YteiljiijagmonaaGreatDoorHds
import Derived.Test.YteiljiijagmonaaGreatDoorSpecX
set_option maxRecDepth 100000
set_option maxHeartbeats 4000000
set_option linter.unusedSimpArgs false
set_option linter.unusedVariables false
set_option linter.unusedSectionVars false
namespace Go.Proofs.YteiljiijagmonaaGreatDoor
open Go.Ev
noncomputable section
theorem rs100:Tryz.f100.results.toList=[.tmp 2]:=rfl
theorem rs47:Tryz.f47.results.toList=[.tmp 2,.tmp 3]:=rfl
attribute [go_sem] rs100 rs47
def imB (L:List (List C)):Bool:=L.all fun x=>Nat.beq x.length 256&&x.all C.flat
theorem Z3u {L:List (List C)} (h:imB L=true) {x:List C} (hx:x∈L):x.length=256/\x.all C.flat=true:=by
 have:=List.all_eq_true.1 h x hx
 rw[aQ] at this
 exact⟨bQ this.1,this.2⟩
theorem Zzj {L:List (List C)} (h:imB L=true):L.all (fun l=>l.all C.flat)=true:=List.all_eq_true.2 fun x hx=>(Z3u h hx).2
def Zis:Kn1:=fun args h=>match args with
 | [.c (.slice n 0 len z)]=>match h.get n with
  | some (.row s L _)=>Yt (Nat.beq s 256&&Nat.beq z 256&&Nat.beq L.length len&&Nat.ble 1 len&&Nat.ble len 2048&&imB L) (some (.w (.c (.slice h.next 0 len 256)),h.new (.row 256 L false)))
  | _=>none
 | _=>none
def Zsp:Kn1:=fun args h=>match args with
 | [.c (.slice n 0 len z)]=>match h.get n with
  | some (.row s L _)=>Yt (Nat.beq s 256&&Nat.beq z 256&&Nat.beq L.length len&&Nat.ble 1 len&&Nat.ble len 2048&&imB L) (some (.tup [.c (.ptr (h.next+1+1) 0),.c (.int .i64 0)],((h.new (.row 256 L false)).new (.row 256 L false)).new (.row 6 [dkL ⟨h.next,h.next+1,len,.snil,0,0⟩] false)))
  | _=>none
 | _=>none
attribute [go_sem] Zis Zsp
section
variable (Hh:Hearts K Tryz.prog)
include Hh
theorem Zqj {args:List W} {h h':Hq} {v:V} (e:Zis args h=some (v,h')):Zi 100 args h v h':=by
 unfold Zis at e
 split at e
 ·rename_i n len z
  split at e
  ·rename_i s L ro heq
   obtain⟨q,e⟩:=Zq.1 e
   cases e
   simp only[aQ] at q
   obtain⟨⟨⟨⟨⟨q1,q2⟩,q3⟩,q4⟩,q5⟩,q6⟩:=q
   obtain rfl:=bQ q1
   obtain rfl:=bQ q2
   have q3:=bQ q3
   have q4:=lQ q4
   have q5:=lQ q5
   have rm:Rc 256 L 0 256 len=some L:=by rw[<-q3]; exact Xn 256 L
   refine Zy.tidy ⟨Tryz.f100,Tryz.func100,kR,by decide⟩ fun tidy=>?_
   have l1:=tidy _ _ heq
   obtain⟨v,h',cc,n',rfl,n1,n2,n3,hk⟩:∃ v h',Zi 100 [.c (.slice n 0 len 256)] h v h'/\∃ n',v=.w (.c (.slice n' 0 len 256))/\h.next<=n'/\n'<h'.next/\h'.get n'=some (.row 256 L false)/\∀ m,m<h.next->h'.get m=h.get m:=by
    rcases L with _|⟨x0,L⟩
    ·simp only[List.length_nil] at q3; omega
    ·
     refine Y0 Hh Tryz.f100 ?_
     repeat (first|apply Zu|apply Ye|apply Yc|((first|apply Goes.Zl|apply Goes.ops2 fits Hh Za); · simp (maxSteps:=9^6) +decide (disch:=first|exact dZ|fail) only [go_sem,Zk,Zh,simprocAttr,heq,rm,q3,List.length_append,Nat.zero_add,Zt,Oh,Jp,Oi,Zb8,S9,Zb6,Zb2,Jn,Rx,Uh,List.replicate_succ,List.replicate_zero,Nat.zero_mul]<;>rfl))
     exact⟨_,_,Zf,_,rfl,(by first|omega|(simp only[H.Zc,H.Yp]<;>omega)),(by first|omega|(simp only[H.Zc,H.Yp]<;>omega)),(by rw[Ob (by rw[H.Yp,H.Zc]; omega)]),fun m hm=>by exact Le⟩
   exact Zy.row1 cc n1 n3 (Zzj q6) n2 hk
  ·cases e
 ·cases e
theorem Zxf {args:List W} {h h':Hq} {v:V} (e:Zsp args h=some (v,h')):Zi 47 args h v h':=by
 unfold Zsp at e
 split at e
 ·rename_i n len z
  split at e
  ·rename_i s L ro heq
   obtain⟨q,e⟩:=Zq.1 e
   cases e
   simp only[aQ] at q
   obtain⟨⟨⟨⟨⟨q1,q2⟩,q3⟩,q4⟩,q5⟩,q6⟩:=q
   obtain rfl:=bQ q1
   obtain rfl:=bQ q2
   have q3:=bQ q3
   have q4:=lQ q4
   have q5:=lQ q5
   refine Zy.tidy ⟨Tryz.f47,Tryz.func47,kR,by decide⟩ fun tidy=>?_
   have l1:=tidy _ _ heq
   refine fnG Hh Tryz.f47 ?_
   have Jf:=Ju @heq @q3 @q6
   repeat (first|apply Zu|apply Ye|apply Yc|refine Goes.Zl Ur ?_|refine Zr Hh (EY (EY Za (Z1a Hh)) (Zqj Hh)) Ur ?_)
   exact Zf
  ·cases e
 ·cases e
end
def stO (n:Nat):Stt:=⟨n+12,n+20,n+21,n+22,.snil,false⟩
def txO (n:Nat):Tx:=⟨n+15,n+16,n+17,n+19,1,false,0,0,.mnil,.mnil,.mnil,.mnil,.pnil⟩
structure ClD (n d d1 d2 a b c e:Nat) (md:Int) (L:List (List C)) (h:Hq):Prop where
 st:h.get 0=some Bj
 n0:0<n
 nx:n+23<=h.next
 l1:d<n+5
 l2:d2<n+5
 ht:h.get (n+20)=some (.row 13 [txL (txO n)] false)
 hg:h.get (n+12)=some (.row 9 [gdL ⟨a,b,c,e,md,d,n+8,n+9,n+11⟩] false)
 hc:h.get (n+8)=some (.row 3 [ckL ⟨d,n+6,n+7⟩] false)
 hd:h.get d=some (.row 6 [dkL ⟨d1,d2,2+e+a * b,.snil,0,0⟩] false)
 hq:h.get d2=some (.row 256 L false)
 hli:h.get (n+11)=some (.row 8 [[.bool true,.int .i64 (a:Int),.int .i64 (b:Int),.int .i64 (c:Int),.int .i64 (e:Int),.bool false,.int .u32 0,.snil]] false)
 hm:h.get (n+6)=some (.map [])
 hfr:h.get (n+17)=some (.map [])
 hod:h.get (n+16)=some (.map [])
 hrv:h.get (n+19)=some (.row 1 [[.map (n+18)]] false)
 hrc:h.get (n+18)=some (.map [])
 hs:h.get (n+13)=some (.row 8 [stL (stO n)] false)
 hdt:h.get (n+21)=some (.map [])
 hgv:h.get (n+22)=some (.map [])
 hch:h.get (n+15)=some (.map [])
 hpn:h.get (n+7)=some (.map [])
theorem ClD.keep {n d d1 d2 a b c e:Nat} {md:Int} {L:List (List C)} {h h2:Hq} (M:ClD n d d1 d2 a b c e md L h) (hx:h.next<=h2.next) (k:∀ m,m<n+23->h2.get m=h.get m):ClD n d d1 d2 a b c e md L h2:=by
 obtain⟨f1,f2,f3,l1,l2,f4,f5,f6,f7,f8,f9,f10,f11,f12,f13,f14,f15,f16,f17,f18,f19⟩:=M
 refine⟨?_,f2,oM,l1,l2,?_,?_,?_,?_,?_,?_,?_,?_,?_,?_,?_,?_,?_,?_,?_,?_⟩
 all_goals (rw[k _ oM]; assumption)
theorem ClD.but {n d d1 d2 a b c e w:Nat} {md:Int} {L:List (List C)} {h h2:Hq} (M:ClD n d d1 d2 a b c e md L h) (hx:h.next<=h2.next) (wl:w<n+5/\w≠d/\w≠d2/\0<w) (k:∀ m,m<n+23->m≠w->h2.get m=h.get m):ClD n d d1 d2 a b c e md L h2:=by
 obtain⟨f1,f2,f3,l1,l2,f4,f5,f6,f7,f8,f9,f10,f11,f12,f13,f14,f15,f16,f17,f18,f19⟩:=M
 refine⟨?_,f2,oM,l1,l2,?_,?_,?_,?_,?_,?_,?_,?_,?_,?_,?_,?_,?_,?_,?_,?_⟩
 all_goals (rw[k _ oM oM]; assumption)
theorem Yay {h:Hq} (l5:6<=h.next) (hst:h.get 0=some Bj) {d d1 d2 a b c e:Nat} {L:List (List C)} (ld:d<h.next) (ld2:d2<h.next) (hd:h.get d=some (.row 6 [dkL ⟨d1,d2,2+e+a * b,.snil,0,0⟩] false)) (hq:h.get d2=some (.row 256 L false)) (md:Int):ClD (h.next - 5) d d1 d2 a b c e md L (X6 h d a b c e md 1)/\h.next<=(X6 h d a b c e md 1).next/\∀ m,m<h.next->(X6 h d a b c e md 1).get m=h.get m:=by
 have kk:∀ m,m<h.next->(X6 h d a b c e md 1).get m=h.get m:=fun m hm=>by
  unfold X6
  simp (discharger:=omega) only [H.get_put,H.Zg,H.Zc,H.Zb,if_neg]
 obtain⟨n,hn⟩:∃ n,h.next=n+5:=⟨h.next - 5,oM⟩
 rw[show h.next - 5=n by omega]
 refine⟨⟨(kk 0 oM).trans hst,?_,?_,oM,oM,?_,?_,?_,(kk d ld).trans hd,(kk d2 ld2).trans hq,?_,?_,?_,?_,?_,?_,?_,?_,?_,?_,?_⟩,?_,kk⟩
 ·omega
 ·unfold X6; simp only[H.Zb,H.Zc]; omega
 all_goals (unfold X6; first|(simp only[H.Zb,H.Zc]; omega)|(simp (discharger:=omega) only [H.get_put,H.Zg,H.Zc,H.Zb,hn,if_neg,if_pos,if_true]; rfl)|(simp (discharger:=omega) only [H.get_put,H.Zg,H.Zc,H.Zb,hn,if_neg,if_pos,if_true]))
def Zgm (n:Nat) (h:Hq) (cr:Cr):Hq:=Zls (Jm h (n+13) (stO n)) (n+20) (txO n) cr.c cr.r
theorem Gy {n m:Nat} {h:Hq} (nx:n+23<=h.next) (hm:m<h.next) (m1:m≠n+13) (m2:m≠n+20) (cr:Cr):(Zgm n h cr).get m=h.get m:=by
 unfold Zgm Zls Wz Jm
 simp (discharger:=omega) only [H.get_put,H.Zg,H.Zc,H.Zb,if_neg]
section
variable {n d d1 d2 a b c e:Nat} {md:Int} {cr:Cr} {L:List (List C)} {h h2:Hq}
theorem ClD.beg (M:ClD n d d1 d2 a b c e md L h) (fb:Y1 a b c e=true) {s:Int} (sz:Bq cr.c cr.r=some s) (sj:s<=(e:Int) - 1):Znp [.c (.ptr (n+13) 0),.c (.int .i64 cr.c),.c (.int .i64 cr.r)] h=some (.w (.c (.int .i64 0)),Zgm n h cr):=by
 obtain⟨f1,f2,f3,l1,l2,f4,f5,f6,f7,f8,f9,f10,f11,f12,f13,f14,f15,f16,f17,f18,f19⟩:=M
 have s9:decide (s<=(e:Int) - 1)=true:=decide_eq_true sj
 unfold Znp Zgm
 simp (maxSteps:=9^6) +decide (disch:=first|exact dZ|fail) only [go_sem,Zk,Zh,simprocAttr,f15,stO,f4,txO,f5,gdL,f12,f13,f14,f11,f18,fb,sz,s9]<;>rfl
theorem ClD.begun [Opn cr] (M:ClD n d d1 d2 a b c e md L h) {S:Lq} {V:Nat->Lq} (Sc:(S.length:Int)<=cr.c) (see:∀ z,z<2+e+a * b->Uu a b c e (z:Int)=true->(V z).length=256/\L[z]? = some (pgL (V z))):HE n h.next a b c e cr md S [] V (Zgm n h cr):=by
 have oc:cr.o=true:=opn
 have oF:=Z0a (cr:=cr)
 have oR:=Z7p (cr:=cr)
 have oS:=Ya6 (cr:=cr)
 obtain⟨x,r,o,ch,fr,rv,sh⟩:=cr
 obtain rfl:o=true:=oc
 obtain rfl:fr=[]:=oF
 obtain rfl:rv=[]:=oR
 obtain rfl:sh=0:=oS
 obtain⟨f1,f2,f3,l1,l2,f4,f5,f6,f7,f8,f9,f10,f11,f12,f13,f14,f15,f16,f17,f18,f19⟩:=M
 refine⟨d,d1,d2,false,[],[],[],[],L,rfl,Zk4 see,rfl,rfl,rfl,(fun _ _ e=>by cases e),rfl,(fun _ _ e=>by cases e),⟨fun _=>Sc,rfl,(fun _ _ e=>by cases e)⟩,(fun _ _ e=>by cases e),fun z z1 hz=>⟨(see z z1 hz).1,.inr ⟨rfl,.inr ⟨rfl,(see z z1 hz).2⟩⟩⟩,?_,f2,oM,?_,l1,l2,?_,?_,?_,?_,?_,?_,?_,?_,?_,?_,?_,?_,?_,?_,?_,?_,?_,?_⟩
 ·rw[Gy f3 oM oM oM]; exact f1
 ·unfold Zgm Zls Wz Jm; simp only[H.Zc,H.Zb]; omega
 ·unfold Zgm Zls Wz Jm; simp (discharger:=omega) only [H.get_put,H.Zg,H.Zc,H.Zb,if_neg,if_pos]; rfl
 ·rw[Gy f3 oM oM oM]; exact f5
 ·rw[Gy f3 oM oM oM]; exact f6
 ·rw[Gy f3 oM oM oM]; exact f7
 ·rw[Gy f3 oM oM oM]; exact f8
 ·rw[Gy f3 oM oM oM]; exact f9
 ·refine Xb.2 ?_; show H.get _ (h.next+1)=_; unfold Zgm Zls Wz Jm; simp (discharger:=omega) only [H.get_put,H.Zg,H.Zc,H.Zb,if_neg,if_pos,if_true]
 ·refine Nh.2 ?_; rw[Gy f3 oM oM oM]; exact f11
 ·rw[Gy f3 oM oM oM]; exact f12
 ·rw[Gy f3 oM oM oM]; exact f13
 ·refine Xm.2 ?_; rw[Gy f3 oM oM oM]; exact f14
 ·show H.get _ h.next=_; unfold Zgm Zls Wz Jm; simp (discharger:=omega) only [H.get_put,H.Zg,H.Zc,H.Zb,if_neg,if_pos,if_true]; rfl
 ·exact fun _=>f3
 ·rw[Gy f3 oM oM oM]; exact f10
 ·unfold Zgm Zls Wz Jm; simp (discharger:=omega) only [H.get_put,H.Zg,H.Zc,H.Zb,if_neg,if_pos]; rfl
 ·intro _; unfold Zgm Zls Wz Jm; simp (discharger:=omega) only [H.get_put,H.Zg,H.Zc,H.Zb,if_neg,if_pos,if_true]; rfl
 ·rw[Gy f3 oM oM oM]; exact f18
 ·rw[Gy f3 oM oM oM]; exact f19
end
theorem ty22:K.types.get 22=some ti22:=kR
theorem sz22:ti22.size=1:=by rfl
theorem ag22:ti22.agg=false:=by rfl
theorem de22:ti22.desc=(.int .u64):=by rfl
theorem ze22:ti22.zero=(.c (.int .u64 0)):=by rfl
theorem by22:ti22.bytes=8:=by rfl
theorem ke22 (k:IntKind) (n:Int):Fe K 20 22 (.c (.int k n))=true:=kR
theorem ty24:K.types.get 24=some ti24:=kR
theorem sz24:ti24.size=1:=by rfl
theorem ag24:ti24.agg=false:=by rfl
theorem de24:ti24.desc=(.pointer 219):=by rfl
theorem ze24:ti24.zero=(.c (.pnil)):=by rfl
theorem by24:ti24.bytes=8:=by rfl
theorem ty26:K.types.get 26=some ti26:=kR
theorem sz26:ti26.size=1:=by rfl
theorem ag26:ti26.agg=false:=by rfl
theorem de26:ti26.desc=(.pointer 191):=by rfl
theorem ze26:ti26.zero=(.c (.pnil)):=by rfl
theorem by26:ti26.bytes=8:=by rfl
theorem ty28:K.types.get 28=some ti28:=kR
theorem sz28:ti28.size=4:=by rfl
theorem ag28:ti28.agg=true:=by rfl
theorem fo28_0:Zm K 28 0=some (0,ti23):=kR
theorem fo28_1:Zm K 28 1=some (1,ti24):=kR
theorem fo28_2:Zm K 28 2=some (2,ti25):=kR
theorem fo28_3:Zm K 28 3=some (3,ti26):=kR
theorem bu28 (ps:List (Nat × W)):Yg K 28 (some ps)=gW (Z8 K 28 ps ti28.zero.cells):=kR
theorem ze28:ti28.zero=(.g ([.pnil,.pnil,.pnil,.pnil])):=by rfl
theorem by28:ti28.bytes=32:=by rfl
theorem ty53:K.types.get 53=some ti53:=kR
theorem sz53:ti53.size=1:=by rfl
theorem ag53:ti53.agg=false:=by rfl
theorem de53:ti53.desc=(.slice 119):=by rfl
theorem ze53:ti53.zero=(.c (.snil)):=by rfl
theorem by53:ti53.bytes=24:=by rfl
theorem el53:Y7 K 53=some ti119:=kR
theorem ty55:K.types.get 55=some ti55:=kR
theorem sz55:ti55.size=6:=by rfl
theorem ag55:ti55.agg=true:=by rfl
theorem fo55_0:Zm K 55 0=some (0,ti52):=kR
theorem fo55_1:Zm K 55 1=some (4,ti5):=kR
theorem fo55_2:Zm K 55 2=some (5,ti53):=kR
theorem bu55 (ps:List (Nat × W)):Yg K 55 (some ps)=gW (Z8 K 55 ps ti55.zero.cells):=kR
theorem ze55:ti55.zero=(.g ([.int .i64 0,.int .i64 0,.int .i64 0,.int .i64 0,.int .u8 0,.snil])):=by rfl
theorem by55:ti55.bytes=64:=by rfl
theorem ty119:K.types.get 119=some ti119:=kR
theorem sz119:ti119.size=3:=by rfl
theorem ag119:ti119.agg=true:=by rfl
theorem fo119_0:Zm K 119 0=some (0,ti3):=kR
theorem fo119_1:Zm K 119 1=some (1,ti3):=kR
theorem fo119_2:Zm K 119 2=some (2,ti5):=kR
theorem bu119 (ps:List (Nat × W)):Yg K 119 (some ps)=gW (Z8 K 119 ps ti119.zero.cells):=kR
theorem ze119:ti119.zero=(.g ([.int .i64 0,.int .i64 0,.int .u8 0])):=by rfl
theorem by119:ti119.bytes=24:=by rfl
theorem ty189:K.types.get 189=some ti189:=kR
theorem sz189:ti189.size=1:=by rfl
theorem ag189:ti189.agg=false:=by rfl
theorem de189:ti189.desc=(.slice 403):=by rfl
theorem ze189:ti189.zero=(.c (.snil)):=by rfl
theorem by189:ti189.bytes=24:=by rfl
theorem el189:Y7 K 189=some ti403:=kR
theorem ty191:K.types.get 191=some ti191:=kR
theorem sz191:ti191.size=4:=by rfl
theorem ag191:ti191.agg=true:=by rfl
theorem fo191_0:Zm K 191 0=some (0,ti115):=kR
theorem fo191_1:Zm K 191 1=some (1,ti189):=kR
theorem fo191_2:Zm K 191 2=some (2,ti3):=kR
theorem fo191_3:Zm K 191 3=some (3,ti3):=kR
theorem bu191 (ps:List (Nat × W)):Yg K 191 (some ps)=gW (Z8 K 191 ps ti191.zero.cells):=kR
theorem ze191:ti191.zero=(.g ([.snil,.snil,.int .i64 0,.int .i64 0])):=by rfl
theorem by191:ti191.bytes=64:=by rfl
theorem ty200:K.types.get 200=some ti200:=kR
theorem sz200:ti200.size=1:=by rfl
theorem ag200:ti200.agg=false:=by rfl
theorem de200:ti200.desc=(.pointer 263):=by rfl
theorem ze200:ti200.zero=(.c (.pnil)):=by rfl
theorem by200:ti200.bytes=8:=by rfl
theorem ty203:K.types.get 203=some ti203:=kR
theorem sz203:ti203.size=1:=by rfl
theorem ag203:ti203.agg=false:=by rfl
theorem de203:ti203.desc=(.pointer 266):=by rfl
theorem ze203:ti203.zero=(.c (.pnil)):=by rfl
theorem by203:ti203.bytes=8:=by rfl
theorem ty206:K.types.get 206=some ti206:=kR
theorem sz206:ti206.size=1:=by rfl
theorem ag206:ti206.agg=false:=by rfl
theorem de206:ti206.desc=(.pointer 209):=by rfl
theorem ze206:ti206.zero=(.c (.pnil)):=by rfl
theorem by206:ti206.bytes=8:=by rfl
theorem ty207:K.types.get 207=some ti207:=kR
theorem sz207:ti207.size=1:=by rfl
theorem ag207:ti207.agg=false:=by rfl
theorem de207:ti207.desc=(.slice 405):=by rfl
theorem ze207:ti207.zero=(.c (.snil)):=by rfl
theorem by207:ti207.bytes=24:=by rfl
theorem el207:Y7 K 207=some ti405:=kR
theorem ty209:K.types.get 209=some ti209:=kR
theorem sz209:ti209.size=3:=by rfl
theorem ag209:ti209.agg=true:=by rfl
theorem fo209_0:Zm K 209 0=some (0,ti26):=kR
theorem fo209_1:Zm K 209 1=some (1,ti207):=kR
theorem fo209_2:Zm K 209 2=some (2,ti40):=kR
theorem bu209 (ps:List (Nat × W)):Yg K 209 (some ps)=gW (Z8 K 209 ps ti209.zero.cells):=kR
theorem ze209:ti209.zero=(.g ([.pnil,.snil,.snil])):=by rfl
theorem by209:ti209.bytes=56:=by rfl
theorem ty210:K.types.get 210=some ti210:=kR
theorem sz210:ti210.size=1:=by rfl
theorem ag210:ti210.agg=false:=by rfl
theorem de210:ti210.desc=(.pointer 214):=by rfl
theorem ze210:ti210.zero=(.c (.pnil)):=by rfl
theorem by210:ti210.bytes=8:=by rfl
theorem ty212:K.types.get 212=some ti212:=kR
theorem sz212:ti212.size=4:=by rfl
theorem ag212:ti212.agg=true:=by rfl
theorem fo212_0:Zm K 212 0=some (0,ti98):=kR
theorem fo212_1:Zm K 212 1=some (1,ti40):=kR
theorem fo212_2:Zm K 212 2=some (2,ti40):=kR
theorem fo212_3:Zm K 212 3=some (3,ti40):=kR
theorem bu212 (ps:List (Nat × W)):Yg K 212 (some ps)=gW (Z8 K 212 ps ti212.zero.cells):=kR
theorem ze212:ti212.zero=(.g ([.snil,.snil,.snil,.snil])):=by rfl
theorem by212:ti212.bytes=96:=by rfl
theorem ty214:K.types.get 214=some ti214:=kR
theorem sz214:ti214.size=13:=by rfl
theorem ag214:ti214.agg=true:=by rfl
theorem fo214_0:Zm K 214 0=some (0,ti34):=kR
theorem fo214_1:Zm K 214 1=some (1,ti212):=kR
theorem fo214_2:Zm K 214 2=some (5,ti212):=kR
theorem fo214_3:Zm K 214 3=some (9,ti4):=kR
theorem fo214_4:Zm K 214 4=some (10,ti3):=kR
theorem fo214_5:Zm K 214 5=some (11,ti3):=kR
theorem fo214_6:Zm K 214 6=some (12,ti40):=kR
theorem bu214 (ps:List (Nat × W)):Yg K 214 (some ps)=gW (Z8 K 214 ps ti214.zero.cells):=kR
theorem ze214:ti214.zero=(.g ([.int .u32 0,.snil,.snil,.snil,.snil,.snil,.snil,.snil,.snil,.bool false,.int .i64 0,.int .i64 0,.snil])):=by rfl
theorem by214:ti214.bytes=248:=by rfl
theorem ty215:K.types.get 215=some ti215:=kR
theorem sz215:ti215.size=1:=by rfl
theorem ag215:ti215.agg=false:=by rfl
theorem de215:ti215.desc=(.slice 406):=by rfl
theorem ze215:ti215.zero=(.c (.snil)):=by rfl
theorem by215:ti215.bytes=24:=by rfl
theorem el215:Y7 K 215=some ti406:=kR
theorem ty217:K.types.get 217=some ti217:=kR
theorem sz217:ti217.size=8:=by rfl
theorem ag217:ti217.agg=true:=by rfl
theorem fo217_0:Zm K 217 0=some (0,ti4):=kR
theorem fo217_1:Zm K 217 1=some (1,ti100):=kR
theorem fo217_2:Zm K 217 2=some (4,ti40):=kR
theorem fo217_3:Zm K 217 3=some (5,ti40):=kR
theorem fo217_4:Zm K 217 4=some (6,ti40):=kR
theorem fo217_5:Zm K 217 5=some (7,ti215):=kR
theorem bu217 (ps:List (Nat × W)):Yg K 217 (some ps)=gW (Z8 K 217 ps ti217.zero.cells):=kR
theorem ze217:ti217.zero=(.g ([.bool false,.int .u32 0,.snil,.snil,.snil,.snil,.snil,.snil])):=by rfl
theorem by217:ti217.bytes=160:=by rfl
theorem ty219:K.types.get 219=some ti219:=kR
theorem sz219:ti219.size=20:=by rfl
theorem ag219:ti219.agg=true:=by rfl
theorem fo219_0:Zm K 219 0=some (0,ti52):=kR
theorem fo219_1:Zm K 219 1=some (4,ti5):=kR
theorem fo219_2:Zm K 219 2=some (5,ti206):=kR
theorem fo219_3:Zm K 219 3=some (6,ti200):=kR
theorem fo219_4:Zm K 219 4=some (7,ti203):=kR
theorem fo219_5:Zm K 219 5=some (8,ti210):=kR
theorem fo219_6:Zm K 219 6=some (9,ti217):=kR
theorem fo219_7:Zm K 219 7=some (17,ti4):=kR
theorem fo219_8:Zm K 219 8=some (18,ti98):=kR
theorem fo219_9:Zm K 219 9=some (19,ti40):=kR
theorem bu219 (ps:List (Nat × W)):Yg K 219 (some ps)=gW (Z8 K 219 ps ti219.zero.cells):=kR
theorem ze219:ti219.zero=(.g ([.int .i64 0,.int .i64 0,.int .i64 0,.int .i64 0,.int .u8 0,.pnil,.pnil,.pnil,.pnil,.bool false,.int .u32 0,.snil,.snil,.snil,.snil,.snil,.snil,.bool false,.snil,.snil])):=by rfl
theorem by219:ti219.bytes=288:=by rfl
theorem ty263:K.types.get 263=some ti263:=kR
theorem sz263:ti263.size=3:=by rfl
theorem ag263:ti263.agg=true:=by rfl
theorem fo263_0:Zm K 263 0=some (0,ti3):=kR
theorem fo263_1:Zm K 263 1=some (1,ti40):=kR
theorem fo263_2:Zm K 263 2=some (2,ti3):=kR
theorem bu263 (ps:List (Nat × W)):Yg K 263 (some ps)=gW (Z8 K 263 ps ti263.zero.cells):=kR
theorem ze263:ti263.zero=(.g ([.int .i64 0,.snil,.int .i64 0])):=by rfl
theorem by263:ti263.bytes=40:=by rfl
theorem ty264:K.types.get 264=some ti264:=kR
theorem sz264:ti264.size=1:=by rfl
theorem ag264:ti264.agg=false:=by rfl
theorem de264:ti264.desc=(.slice 408):=by rfl
theorem ze264:ti264.zero=(.c (.snil)):=by rfl
theorem by264:ti264.bytes=24:=by rfl
theorem el264:Y7 K 264=some ti408:=kR
theorem ty266:K.types.get 266=some ti266:=kR
theorem sz266:ti266.size=7:=by rfl
theorem ag266:ti266.agg=true:=by rfl
theorem fo266_0:Zm K 266 0=some (0,ti52):=kR
theorem fo266_1:Zm K 266 1=some (4,ti264):=kR
theorem fo266_2:Zm K 266 2=some (5,ti34):=kR
theorem fo266_3:Zm K 266 3=some (6,ti4):=kR
theorem bu266 (ps:List (Nat × W)):Yg K 266 (some ps)=gW (Z8 K 266 ps ti266.zero.cells):=kR
theorem ze266:ti266.zero=(.g ([.int .i64 0,.int .i64 0,.int .i64 0,.int .i64 0,.snil,.int .u32 0,.bool false])):=by rfl
theorem by266:ti266.bytes=64:=by rfl
theorem ty403:K.types.get 403=some ti403:=kR
theorem sz403:ti403.size=257:=by rfl
theorem ag403:ti403.agg=true:=by rfl
theorem fo403_0:Zm K 403 0=some (0,ti3):=kR
theorem fo403_1:Zm K 403 1=some (1,ti66):=kR
theorem bu403 (ps:List (Nat × W)):Yg K 403 (some ps)=gW (Z8 K 403 ps ti403.zero.cells):=kR
theorem ze403:ti403.zero=(.g (List.replicate 1 (.int .i64 0)++List.replicate 256 (.int .u8 0))):=by rfl
theorem by403:ti403.bytes=264:=by rfl
theorem ty405:K.types.get 405=some ti405:=kR
theorem sz405:ti405.size=258:=by rfl
theorem ag405:ti405.agg=true:=by rfl
theorem fo405_0:Zm K 405 0=some (0,ti3):=kR
theorem fo405_1:Zm K 405 1=some (1,ti66):=kR
theorem fo405_2:Zm K 405 2=some (257,ti4):=kR
theorem bu405 (ps:List (Nat × W)):Yg K 405 (some ps)=gW (Z8 K 405 ps ti405.zero.cells):=kR
theorem ze405:ti405.zero=(.g (List.replicate 1 (.int .i64 0)++List.replicate 256 (.int .u8 0)++List.replicate 1 (.bool false))):=by rfl
theorem by405:ti405.bytes=272:=by rfl
theorem ty406:K.types.get 406=some ti406:=kR
theorem sz406:ti406.size=258:=by rfl
theorem ag406:ti406.agg=true:=by rfl
theorem fo406_0:Zm K 406 0=some (0,ti5):=kR
theorem fo406_1:Zm K 406 1=some (1,ti3):=kR
theorem fo406_2:Zm K 406 2=some (2,ti66):=kR
theorem bu406 (ps:List (Nat × W)):Yg K 406 (some ps)=gW (Z8 K 406 ps ti406.zero.cells):=kR
theorem ze406:ti406.zero=(.g (List.replicate 1 (.int .u8 0)++List.replicate 1 (.int .i64 0)++List.replicate 256 (.int .u8 0))):=by rfl
theorem by406:ti406.bytes=272:=by rfl
theorem ty408:K.types.get 408=some ti408:=kR
theorem sz408:ti408.size=6:=by rfl
theorem ag408:ti408.agg=true:=by rfl
theorem fo408_0:Zm K 408 0=some (0,ti100):=kR
theorem fo408_1:Zm K 408 1=some (3,ti3):=kR
theorem fo408_2:Zm K 408 2=some (4,ti3):=kR
theorem fo408_3:Zm K 408 3=some (5,ti98):=kR
theorem bu408 (ps:List (Nat × W)):Yg K 408 (some ps)=gW (Z8 K 408 ps ti408.zero.cells):=kR
theorem ze408:ti408.zero=(.g ([.int .u32 0,.snil,.snil,.int .i64 0,.int .i64 0,.snil])):=by rfl
theorem by408:ti408.bytes=96:=by rfl
attribute [go_sem] ty22 sz22 ag22 de22 ze22 by22 ke22 ty24 sz24 ag24 de24 ze24 by24 ty26 sz26 ag26 de26 ze26 by26 ty28 sz28 ag28 fo28_0 fo28_1 fo28_2 fo28_3 bu28 ze28 by28 ty53 sz53 ag53 de53 ze53 by53 el53 ty55 sz55 ag55 fo55_0 fo55_1 fo55_2 bu55 ze55 by55 ty119 sz119 ag119 fo119_0 fo119_1 fo119_2 bu119 ze119 by119 ty189 sz189 ag189 de189 ze189 by189 el189 ty191 sz191 ag191 fo191_0 fo191_1 fo191_2 fo191_3 bu191 ze191 by191 ty200 sz200 ag200 de200 ze200 by200 ty203 sz203 ag203 de203 ze203 by203 ty206 sz206 ag206 de206 ze206 by206 ty207 sz207 ag207 de207 ze207 by207 el207 ty209 sz209 ag209 fo209_0 fo209_1 fo209_2 bu209 ze209 by209 ty210 sz210 ag210 de210 ze210 by210 ty212 sz212 ag212 fo212_0 fo212_1 fo212_2 fo212_3 bu212 ze212 by212 ty214 sz214 ag214 fo214_0 fo214_1 fo214_2 fo214_3 fo214_4 fo214_5 fo214_6 bu214 ze214 by214 ty215 sz215 ag215 de215 ze215 by215 el215 ty217 sz217 ag217 fo217_0 fo217_1 fo217_2 fo217_3 fo217_4 fo217_5 bu217 ze217 by217 ty219 sz219 ag219 fo219_0 fo219_1 fo219_2 fo219_3 fo219_4 fo219_5 fo219_6 fo219_7 fo219_8 fo219_9 bu219 ze219 by219 ty263 sz263 ag263 fo263_0 fo263_1 fo263_2 bu263 ze263 by263 ty264 sz264 ag264 de264 ze264 by264 el264 ty266 sz266 ag266 fo266_0 fo266_1 fo266_2 fo266_3 bu266 ze266 by266 ty403 sz403 ag403 fo403_0 fo403_1 bu403 ze403 by403 ty405 sz405 ag405 fo405_0 fo405_1 fo405_2 bu405 ze405 by405 ty406 sz406 ag406 fo406_0 fo406_1 fo406_2 bu406 ze406 by406 ty408 sz408 ag408 fo408_0 fo408_1 fo408_2 fo408_3 bu408 ze408 by408
theorem rs13:Tryz.f13.results.toList=[.cell 2 28,.tmp 3]:=rfl
theorem rs48:Tryz.f48.results.toList=[.tmp 2,.tmp 3]:=rfl
theorem rs50:Tryz.f50.results.toList=[.tmp 8,.tmp 9]:=rfl
theorem rs108:Tryz.f108.results.toList=[.tmp 2,.tmp 3]:=rfl
theorem rs109:Tryz.f109.results.toList=[.tmp 2,.tmp 3]:=rfl
attribute [go_sem] rs13 rs48 rs50 rs108 rs109
section
variable (Hh:Hearts K Tryz.prog)
include Hh
theorem Z5u (h:Hq):Zi 91 [.g [.int .i64 4,.int .i64 60,.int .i64 8,.int .i64 40]] h (.w (.c (.bool true))) h:=Zy.closed fits Hh Q9 gl (n:=20000) kR rfl rfl h
theorem Z0k (h:Hq):Zi 107 [.g [.int .i64 4,.int .i64 60,.int .i64 8,.int .i64 40]] h (.w (.c (.int .i64 282))) h:=Zy.closed fits Hh Q9 gl (n:=20000) kR rfl rfl h
theorem Z9z {h:Hq} {n:Nat} {L:List (List C)} (hn:h.get n=some (.row 256 L false)) (nl:n<h.next) (Ll:L.length=282) (lf:Yx K 115 (.c (.slice n 0 282 256))=true) :
  ∃ h' q m sz x,Zi 48 [.c (.slice n 0 282 256)] h (.tup [.c (.ptr q 0),.c (.int .i64 0)]) h'/\h.next<=q/\q<h'.next/\h'.get q=some (.row sz [x] false)/\read1 sz [x] 0=some (.slice m 0 282 256)/\∀ m,m<h.next->h'.get m=h.get m:=by
 have rm:Rc 256 L 0 256 282=some L:=by rw[<-Ll]; exact Xn 256 L
 obtain⟨v,h',cc,q,m,sz,x,rfl,q1,q2,q3,q4,hk⟩:∃ v h',Zi 48 [.c (.slice n 0 282 256)] h v h'/\∃ q m sz x,v=.tup [.c (.ptr q 0),.c (.int .i64 0)]/\h.next<=q/\q<h'.next/\h'.get q=some (.row sz [x] false)/\read1 sz [x] 0=some (.slice m 0 282 256)/\∀ m,m<h.next->h'.get m=h.get m:=by
  rcases L with _|⟨x0,L⟩
  ·simp at Ll
  ·
   refine Y0 Hh Tryz.f48 ?_
   iterate 10 (first|((first|apply Goes.Zl|apply Goes.ops2 fits Hh Za); · simp (maxSteps:=9^6) +decide (disch:=first|exact dZ|fail) only [go_sem,Zk,Zh,simprocAttr,lf,hn,rm,Ll,List.length_append,Nat.zero_add,Zt,J5,Yy,Oh,Jp,Oi,Zb8,S9,Zb6,Zb2,Jn,Rx,Uh,List.replicate_succ,List.replicate_zero,Nat.zero_mul]<;>rfl)|apply gS)
   refine⟨_,_,Zf,_,_,_,_,rfl,?_,?_,by first|exact Dy .. | (rw[Ob (by simp only[H.Zc,H.Yp]<;>omega)]),rfl,fun m hm=>by exact Le⟩
   ·first|omega|(simp only[H.Zc,H.Yp]<;>omega)
   ·first|omega|(simp only[H.Zc,H.Yp]<;>omega)
 exact⟨h',q,m,sz,x,cc,q1,q2,q3,q4,hk⟩
theorem Z90 (h:Hq):∃ h' r,Zi 108 [.c (.int .i64 40)] h (.tup [.c (.ptr r 0),.c (.int .i64 0)]) h'/\h.next<=h'.next/\∀ m,m<h.next->h'.get m=h.get m:=by
 obtain⟨v,h',cc,r,rfl,n1,hk⟩:∃ v h',Zi 108 [.c (.int .i64 40)] h v h'/\∃ r,v=.tup [.c (.ptr r 0),.c (.int .i64 0)]/\h.next<=h'.next/\∀ m,m<h.next->h'.get m=h.get m:=by
  refine Y0 Hh Tryz.f108 ?_
  iterate 10 (first|refine Goes.Zl Sm ?_|refine Zr Hh Za Sm ?_|apply gS)
  exact⟨_,_,Zf,_,rfl,(by first|omega|(simp only[H.Zc,H.Zb]<;>omega)),fun m hm=>by exact Le⟩
 exact⟨h',r,cc,n1,hk⟩
theorem Z9y (h:Hq):∃ h' r,Zi 109 [.g [.int .i64 4,.int .i64 60,.int .i64 8,.int .i64 40]] h (.tup [.c (.ptr r 0),.c (.int .i64 0)]) h'/\h.next<=h'.next/\∀ m,m<h.next->h'.get m=h.get m:=by
 have cM:=fun h=>Z5u Hh h
 have rd4':Zk 4 [[.int .i64 4,.int .i64 60,.int .i64 8,.int .i64 40]] 0 4=some [.int .i64 4,.int .i64 60,.int .i64 8,.int .i64 40]:=rfl
 obtain⟨v,h',cc,r,rfl,n1,hk⟩:∃ v h',Zi 109 [.g [.int .i64 4,.int .i64 60,.int .i64 8,.int .i64 40]] h v h'/\∃ r,v=.tup [.c (.ptr r 0),.c (.int .i64 0)]/\h.next<=h'.next/\∀ m,m<h.next->h'.get m=h.get m:=by
  refine Y0 Hh Tryz.f109 ?_
  have Jf:=@rd4'
  iterate 4 (first|refine Zr Hh Za Ub ?_|apply gS)
  iterate 6 (first|refine Goes.Zl Ub ?_|refine Zr Hh (Jj Za cM) Ub ?_|apply gS)
  exact⟨_,_,Y6,_,rfl,(by first|omega|(simp only[H.Zc,H.Zb]<;>omega)),fun m hm=>by exact Le⟩
 exact⟨h',r,cc,n1,hk⟩
theorem Ya9 {h:Hq} {q m sz:Nat} {x:List C} (hq:h.get q=some (.row sz [x] false)) (hx:read1 sz [x] 0=some (.slice m 0 282 256)) (ql:q<h.next) {md:Int} (m1:1<=md) (m3:md<=3) (lf:Yx K 115 (.c (.slice m 0 282 256))=true) :
  ∃ h' s,Zi 50 [.c (.ptr q 0),.g [.int .i64 4,.int .i64 60,.int .i64 8,.int .i64 40],.c (.int .u8 md),.c (.int .u32 1)] h (.tup [.c (.ptr s 0),.c (.int .i64 0)]) h'/\h.next<=h'.next/\∀ m,m<h.next->h'.get m=h.get m:=by
 have cM:=fun h=>Z5u Hh h
 have cB:=fun h=>Z0k Hh h
 have hx':x[0]? = some (.slice m 0 282 256):=by
  unfold read1 at hx
  rw[Nat.zero_div,Nat.zero_mod,List.getElem?_cons_zero] at hx
  exact hx
 have rd4':Zk 4 [[.int .i64 4,.int .i64 60,.int .i64 8,.int .i64 40]] 0 4=some [.int .i64 4,.int .i64 60,.int .i64 8,.int .i64 40]:=rfl
 obtain⟨v,h',cc,s,rfl,n1,hk⟩:∃ v h',Zi 50 [.c (.ptr q 0),.g [.int .i64 4,.int .i64 60,.int .i64 8,.int .i64 40],.c (.int .u8 md),.c (.int .u32 1)] h v h'/\∃ s,v=.tup [.c (.ptr s 0),.c (.int .i64 0)]/\h.next<=h'.next/\∀ m,m<h.next->h'.get m=h.get m:=by
  refine Y0 Hh Tryz.f50 ?_
  have Jf:=Nt @rd4' @hq @hx' @lf @Nat.zero_div @Nat.zero_mod
  iterate 4 (first|refine Zr Hh Za Uq ?_|apply gS)
  iterate 5 (first|refine Goes.Zl Uq ?_|refine Zr Hh (Jj Za cM) Uq ?_|apply gS)
  iterate 4 (first|refine Goes.Zl Uq ?_|refine G6 Hh (Jj Za cB) Wt ?_|apply gS)
  refine Ow fun hA eA=>?_
  have nA:hA.next=h.next+1:=nxQ eA
  have kA:∀ m,m<h.next->hA.get m=h.get m:=fun m hm=>by rw[eA]; exact Le
  have aA:hA.get h.next=some (.row 4 [[.int .i64 4,.int .i64 60,.int .i64 8,.int .i64 40]] false):=by rw[eA]; exact Y6
  clear eA
  obtain⟨hB,r1,c5,nB,kB⟩:=Z90 Hh hA
  have aB:=(kB h.next oM).trans aA
  obtain⟨hC,r2,c6,nC,kC⟩:=Z9y Hh hB
  have aC:=(kC h.next oM).trans aB
  have Jf:=Um Jf @aA @aB @aC
  iterate 2 (first|refine Zr Hh (Zp Za c5) Uq ?_|apply gS)
  iterate 4 (first|refine Zr Hh (Zp Za c6) Uq ?_|apply gS)
  exact⟨_,_,Y6,_,rfl,(by first|omega|(simp only[H.Zc,H.Zb]<;>omega)),fun m hm=>by refine Eq.trans ?_ ((kC m oM).trans ((kB m oM).trans (kA m hm))); exact Le⟩
 exact⟨h',s,cc,n1,hk⟩
end
section
variable (Hh:Hearts K Tryz.prog)
include Hh
theorem Z5b {md:Int} (m1:1<=md) (m3:md<=3) {h:Hq} (hst:h.get 0=some Bj) (l0:0<h.next) (lf:∀ p,Yx K 115 (.c (.slice p 0 282 256))=true) (lt:Yx K 53 (.c .snil)=true) :
  ∃ h' n d d1 d2 r q,Zi 13 [.g [.int .i64 4,.int .i64 60,.int .i64 8,.int .i64 40,.int .u8 md,.snil]] h (.tup [.g [.ptr (n+13) 0,.ptr r 0,.ptr d 0,.ptr q 0],.c (.bool true)]) h'/\ClD n d d1 d2 4 60 8 40 md Qm h'/\h.next<=n/\∀ m,m<h.next->h'.get m=h.get m:=by
 have cM:∀ h,Zi 46 [.g [.int .i64 4,.int .i64 60,.int .i64 8,.int .i64 40]] h (.tup [.c (.slice h.next 0 282 256),.c (.int .i64 0)]) (h.new (.row 256 Qm false)):=fun h=>Z1i Hh rfl
 have r64:Zk 6 [[.int .i64 4,.int .i64 60,.int .i64 8,.int .i64 40,.int .u8 md,.snil]] 0 4=some [.int .i64 4,.int .i64 60,.int .i64 8,.int .i64 40]:=rfl
 have r44:∀ a b c d:C,Zk 4 [[a,b,c,d]] 0 4=some [a,b,c,d]:=fun _ _ _ _=>rfl
 have il:Qm.length=282:=kR
 have im:imB Qm=true:=kR
 have f4:Y1 4 60 8 40=true:=kR
 obtain⟨I,hI⟩:=xzE (Qm)
 simp only[hI] at cM il im ⊢
 obtain⟨v,h',cc,n,d,d1,d2,r,q,rfl,M,nn,hk⟩:∃ v h',Zi 13 [.g [.int .i64 4,.int .i64 60,.int .i64 8,.int .i64 40,.int .u8 md,.snil]] h v h'/\∃ n d d1 d2 r q,v=.tup [.g [.ptr (n+13) 0,.ptr r 0,.ptr d 0,.ptr q 0],.c (.bool true)]/\ClD n d d1 d2 4 60 8 40 md I h'/\h.next<=n/\∀ m,m<h.next->h'.get m=h.get m:=by
  refine Y0 Hh Tryz.f13 ?_
  have Jf:=Nt @r64 @il @im @f4 @lf @lt
  iterate 3 (first|refine Zr Hh Za Uq ?_|apply gS)
  iterate 17 (first|refine Goes.Zl Uq ?_|refine Zr Hh (Jj Za cM) Uq ?_|apply gS)
  iterate 2 (first|refine Zr Hh (EY Za (Zxf Hh)) Uq ?_|apply gS)
  refine Ow fun hA eA=>?_
  have nA:hA.next=h.next+6:=nxQ eA
  have kA:∀ m,m<h.next->hA.get m=h.get m:=kQ eA
  have b0:hA.get h.next=some (.row 6 [[.int .i64 4,.int .i64 60,.int .i64 8,.int .i64 40,.int .u8 md,.snil]] false):=by rw[eA]; exact Y6
  obtain⟨w,wl,b1⟩:∃ w:List C,w.length=4/\hA.get (h.next+1)=some (.row 4 [w] false):=⟨_,rfl,by rw[eA]; exact Y6⟩
  have b2:hA.get (h.next+2)=some (.row 256 I false):=by rw[eA]; exact Y6
  have b4:hA.get (h.next+4)=some (.row 256 I false):=by rw[eA]; exact Z0
  have b5:hA.get (h.next+5)=some (.row 6 [dkL ⟨h.next+3,h.next+4,282,.snil,0,0⟩] false):=by rw[eA]; exact Z0
  have sA:=(kA 0 l0).trans hst
  clear eA
  obtain⟨hB,q,m,sz,x,c11,q1,q2,q3,q4,kB⟩:=Z9z Hh b2 oM il (lf _)
  have B0:=(kB h.next oM).trans b0
  have B4:=(kB _ oM).trans b4
  have B5:=(kB _ oM).trans b5
  have sB:=(kB 0 oM).trans sA
  obtain⟨N,hN⟩:∃ N,hB.next=N+5:=⟨hB.next - 5,oM⟩
  iterate 7 (first|((first|apply Goes.Zl|apply Goes.ops2 fits Hh (Zp Za c11)); · simp (maxSteps:=9^6) +decide (disch:=first|exact dZ|fail) only [go_sem,Zh,simprocAttr,Z4,r64,il,im,f4,lf,lt,b0,B0,B5,Yy,Zt,J5,read1]<;>rfl)|apply gS)
  iterate 2 (first|(apply Goes.ops2 fits Hh (EY Za (Z10 Hh)); · simp (maxSteps:=9^6) +decide (disch:=first|exact dZ|fail) only [go_sem,Zh,simprocAttr,r64,il,im,f4,lf,lt,b0,B0,B5,Yy,Zt,J5,read1]<;>rfl)|apply gS)
  refine Ow fun hC eC=>?_
  have ND:=Yay (h:=hB) oM sB (d:=h.next+5) (d1:=h.next+3) (d2:=h.next+4) (a:=4) (b:=60) (c:=8) (e:=40) (L:=I) oM oM B5 B4 md
  have eC':hC=X6 hB (h.next+5) 4 60 8 40 md 1:=eC
  rw[<-eC',show hB.next - 5=N by omega] at ND
  obtain⟨MC,nC,kC⟩:=ND
  clear eC eC'
  have C0:=(kC h.next oM).trans B0
  have Cq:=(kC q q2).trans q3
  obtain⟨hD,s,c15,nD,kD⟩:=Ya9 Hh Cq q4 oM m1 m3 (lf _)
  have D1:=(kD (h.next+1) oM).trans ((kC _ oM).trans ((kB _ oM).trans b1))
  have nB6:h.next+6<=hD.next:=oM
  iterate 4 (first|(apply Goes.ops2 fits Hh (Zp Za c15); · simp (maxSteps:=9^6) +decide (disch:=first|exact dZ|fail) only [go_sem,Zh,simprocAttr,Z4,r64,il,im,f4,lf,lt,b0,B0,B5,C0,D1,wl,r44,Yy,Zt,J5,read1]<;>rfl)|apply gS)
  refine⟨_,_,(by have Jf:=@r44; exact Z0),N,h.next+5,h.next+3,h.next+4,s,q,?_,(MC.keep nD fun m hm=>kD m (by have:=MC.nx; omega)).but (w:=h.next+1) ?_ ⟨oM,oM,oM,oM⟩ (fun m hm hne=>?_),oM,fun m hm=>?_⟩
  ·rw[hN]
  ·first|omega|(simp only[H.Zb,H.Zc]<;>omega)
  ·exact Jg
  ·refine Eq.trans ?_ ((kD m oM).trans ((kC m oM).trans ((kB m oM).trans (kA m hm)))); exact Jg
 exact⟨h',n,d,d1,d2,r,q,cc,M,nn,hk⟩
end
def V4 (z:Nat):Lq:=unN ((Qm[z]?).getD [])
theorem Z53:∀ z,z<282->(V4 z).length=256/\Qm[z]? = some (pgL (V4 z)):=by
 have il:Qm.length=282:=kR
 have ib:Qm.all (fun x=>Nat.beq x.length 256&&Zlu x)=true:=kR
 intro z hz
 have hx:Qm[z]? = some Qm[z]:=List.getElem?_eq_getElem oM
 have:=List.all_eq_true.1 ib _ (List.getElem_mem (by omega:z<Qm.length))
 rw[aQ] at this
 obtain⟨ns,e,nl⟩:=Zfs this.2
 have xl:=bQ this.1
 have hx':Qm[z]? = some (pgL ns):=hx.trans (congrArg some e)
 have v:V4 z=ns.map (· % 256):=by unfold V4; rw[hx',Option.getD_some,Gh]
 rw[v]
 refine⟨by rw[List.length_map,nl]; exact xl,?_⟩
 rw[hx',Zrz]
end
end Go.Proofs.YteiljiijagmonaaGreatDoor
