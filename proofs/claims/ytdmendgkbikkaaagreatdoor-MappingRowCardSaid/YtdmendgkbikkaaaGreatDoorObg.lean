/- disk.Load, slices.Clone of blocks. -/
import Derived.Test.YtdmendgkbikkaaaGreatDoorBeg
import Derived.Test.YtdmendgkbikkaaaGreatDoorHdd
import Derived.Test.YtdmendgkbikkaaaGreatDoorBeg3
import Derived.Test.YtdmendgkbikkaaaGreatDoorSpecX
import Derived.Test.YtdmendgkbikkaaaGreatDoorHba
import Derived.Test.YtdmendgkbikkaaaGreatDoorEvC
set_option linter.unusedSimpArgs false
set_option linter.unusedVariables false
set_option linter.unusedSectionVars false
set_option maxRecDepth 100000
set_option maxHeartbeats 4000000
namespace Go.Proofs.YtdmendgkbikkaaaGreatDoor
open Go.Ev
theorem rs102:Tryz.f102.results.toList=[.tmp 2]:=rfl
theorem rs49:Tryz.f49.results.toList=[.tmp 2,.tmp 3]:=rfl
attribute [go_sem] rs102 rs49
def imB (L:List (List C)):Bool:=L.all fun x=>Nat.beq x.length 256&&x.all C.flat
theorem Zz9 {L:List (List C)} (h:imB L=true) {x:List C} (hx:x∈L):x.length=256∧x.all C.flat=true:=by
 have:=List.all_eq_true.1 h x hx
 rw[Bool.and_eq_true] at this
 exact⟨Nat.eq_of_beq_eq_true this.1,this.2⟩
theorem Zv4 {L:List (List C)} (h:imB L=true):L.all (fun l=>l.all C.flat)=true:=List.all_eq_true.2 fun x hx=>(Zz9 h hx).2
noncomputable def Zf8:Kn1:=fun args h=>match args with
 | [.c (.slice n 0 len z)]=>match h.get n with
  | some (.row s L _)=>Yp (Nat.beq s 256&&Nat.beq z 256&&Nat.beq L.length len&&Nat.ble 1 len&&Nat.ble len 2048&&imB L) (some (.w (.c (.slice h.next 0 len 256)),h.new (.row 256 L false)))
  | _=>none
 | _=>none
noncomputable def Zpf:Kn1:=fun args h=>match args with
 | [.c (.slice n 0 len z)]=>match h.get n with
  | some (.row s L _)=>Yp (Nat.beq s 256&&Nat.beq z 256&&Nat.beq L.length len&&Nat.ble 1 len&&Nat.ble len 2048&&imB L) (some (.tup [.c (.ptr (h.next+1+1) 0),.c (.int .i64 0)],((h.new (.row 256 L false)).new (.row 256 L false)).new (.row 6 [dkL ⟨h.next,h.next+1,len,.snil,0,0⟩] false)))
  | _=>none
 | _=>none
attribute [go_sem] Zf8 Zpf
section
variable (Hh:Hearts K Tryz.prog)
include Hh
theorem Zm8 {args:List W} {h h':Go.Ev.H} {v:V} (e:Zf8 args h=some (v,h')):Zg 102 args h v h':=by
 unfold Zf8 at e
 split at e
 ·rename_i n len z
  split at e
  ·rename_i s L ro heq
   obtain⟨q,e⟩:=Zr.1 e
   cases e
   simp only[Bool.and_eq_true] at q
   obtain⟨⟨⟨⟨⟨q1,q2⟩,q3⟩,q4⟩,q5⟩,q6⟩:=q
   obtain rfl:=Nat.eq_of_beq_eq_true q1
   obtain rfl:=Nat.eq_of_beq_eq_true q2
   have q3:=Nat.eq_of_beq_eq_true q3
   have q4:=Nat.le_of_ble_eq_true q4
   have q5:=Nat.le_of_ble_eq_true q5
   have rm:Me 256 L 0 256 len=some L:=by rw[←q3]; exact Sr 256 L
   refine Zv.tidy ⟨Tryz.f102,Tryz.func102,by kernel_rfl,by decide⟩ fun tidy=>?_
   have l1:=tidy _ _ heq
   obtain⟨v,h',cc,n',rfl,n1,n2,n3,hk⟩:∃ v h',Zg 102 [.c (.slice n 0 len 256)] h v h'∧∃ n',v=.w (.c (.slice n' 0 len 256))∧h.next≤n'∧n'<h'.next∧h'.get n'=some (.row 256 L false)∧∀ m,m<h.next→h'.get m=h.get m:=by
    rcases L with _|⟨x0,L⟩
    ·simp only[List.length_nil] at q3; omega
    ·
     refine Jd Hh Tryz.f102 ?_
     repeat (first|apply Zp|apply Z6|apply Yb|((first|apply Goes.Zn|apply Goes.ops2 fits Hh Za); · simp (maxSteps:=9^6) +decide (disch:=first|omega|(simp only[lens]<;>omega)|decide) only [go_sem,Zm,Ze,simprocAttr,heq,rm,q3,List.length_append,Nat.zero_add,Zt,Uy,Jb,U2,Qo,Ny,Ql,Qh,Y4,M0,J8,List.replicate_succ,List.replicate_zero,Nat.zero_mul]<;>rfl))
     exact⟨_,_,Zj,_,rfl,(by first|omega|(simp only[H.Zc,H.Yo]<;>omega)),(by first|omega|(simp only[H.Zc,H.Yo]<;>omega)),(by rw[Gp (by rw[H.Yo,H.Zc]; omega)]),fun m hm=>by exact F4⟩
   exact Zv.row1 cc n1 n3 (Zv4 q6) n2 hk
  ·cases e
 ·cases e
theorem Ztv {args:List W} {h h':Go.Ev.H} {v:V} (e:Zpf args h=some (v,h')):Zg 49 args h v h':=by
 unfold Zpf at e
 split at e
 ·rename_i n len z
  split at e
  ·rename_i s L ro heq
   obtain⟨q,e⟩:=Zr.1 e
   cases e
   simp only[Bool.and_eq_true] at q
   obtain⟨⟨⟨⟨⟨q1,q2⟩,q3⟩,q4⟩,q5⟩,q6⟩:=q
   obtain rfl:=Nat.eq_of_beq_eq_true q1
   obtain rfl:=Nat.eq_of_beq_eq_true q2
   have q3:=Nat.eq_of_beq_eq_true q3
   have q4:=Nat.le_of_ble_eq_true q4
   have q5:=Nat.le_of_ble_eq_true q5
   refine Zv.tidy ⟨Tryz.f49,Tryz.func49,by kernel_rfl,by decide⟩ fun tidy=>?_
   have l1:=tidy _ _ heq
   refine fnG Hh Tryz.f49 ?_
   have Jf:=Uc @heq @q3 @q6
   repeat (first|apply Zp|apply Z6|apply Yb|refine Goes.Zn Je ?_|refine Zy Hh (EY (EY Za (Zxx Hh)) (Zm8 Hh)) Je ?_)
   exact Zj
  ·cases e
 ·cases e
end
def stO (n:Nat):Stt:=⟨n+12,n+20,n+21,n+22,.snil,false⟩
def txO (n:Nat):Tx:=⟨n+15,n+16,n+17,n+19,1,false,0,0,.mnil,.mnil,.mnil,.mnil,.pnil⟩
structure ClD (n d d1 d2 a b c e:Nat) (md:Int) (L:List (List C)) (h:Go.Ev.H):Prop where
 st:h.get 0=some Gr
 n0:0<n
 nx:n+23≤h.next
 l1:d<n+5
 l2:d2<n+5
 ht:h.get (n+20)=some (.row 13 [txL (txO n)] false)
 hg:h.get (n+12)=some (.row 9 [gdL ⟨a,b,c,e,md,d,n+8,n+9,n+11⟩] false)
 hc:h.get (n+8)=some (.row 3 [ckL ⟨d,n+6,n+7⟩] false)
 hd:h.get d=some (.row 6 [dkL ⟨d1,d2,2+e+a * b,.snil,0,0⟩] false)
 hq:h.get d2=some (.row 256 L false)
 hli:h.get (n+11)=some (.row 8 [[.bool true,.int .i64 (a:Int),.int .i64 (b:Int),.int .i64 (c:Int),.int .i64 (e:Int),.bool false,.int .u32 0,.snil]] false)
 hm:h.get (n+6)=some (.map [])
 hfr:h.get (n+17)=some (.map [])
 hod:h.get (n+16)=some (.map [])
 hrv:h.get (n+19)=some (.row 1 [[.map (n+18)]] false)
 hrc:h.get (n+18)=some (.map [])
 hs:h.get (n+13)=some (.row 8 [stL (stO n)] false)
 hdt:h.get (n+21)=some (.map [])
 hgv:h.get (n+22)=some (.map [])
 hch:h.get (n+15)=some (.map [])
theorem ClD.keep {n d d1 d2 a b c e:Nat} {md:Int} {L:List (List C)} {h h2:Go.Ev.H} (M:ClD n d d1 d2 a b c e md L h) (hx:h.next≤h2.next) (k:∀ m,m<n+23→h2.get m=h.get m):ClD n d d1 d2 a b c e md L h2:=by
 obtain⟨f1,f2,f3,l1,l2,f4,f5,f6,f7,f8,f9,f10,f11,f12,f13,f14,f15,f16,f17,f18⟩:=M
 refine⟨?_,f2,by omega,l1,l2,?_,?_,?_,?_,?_,?_,?_,?_,?_,?_,?_,?_,?_,?_,?_⟩
 all_goals (rw[k _ (by omega)]; assumption)
theorem ClD.but {n d d1 d2 a b c e w:Nat} {md:Int} {L:List (List C)} {h h2:Go.Ev.H} (M:ClD n d d1 d2 a b c e md L h) (hx:h.next≤h2.next) (wl:w<n+5∧w≠d∧w≠d2∧0<w) (k:∀ m,m<n+23→m≠w→h2.get m=h.get m):ClD n d d1 d2 a b c e md L h2:=by
 obtain⟨f1,f2,f3,l1,l2,f4,f5,f6,f7,f8,f9,f10,f11,f12,f13,f14,f15,f16,f17,f18⟩:=M
 refine⟨?_,f2,by omega,l1,l2,?_,?_,?_,?_,?_,?_,?_,?_,?_,?_,?_,?_,?_,?_,?_⟩
 all_goals (rw[k _ (by omega) (by omega)]; assumption)
theorem Z6n {h:Go.Ev.H} (l5:6≤h.next) (hst:h.get 0=some Gr) {d d1 d2 a b c e:Nat} {L:List (List C)} (ld:d<h.next) (ld2:d2<h.next) (hd:h.get d=some (.row 6 [dkL ⟨d1,d2,2+e+a * b,.snil,0,0⟩] false)) (hq:h.get d2=some (.row 256 L false)) (md:Int):ClD (h.next - 5) d d1 d2 a b c e md L (Tg h d a b c e md 1)∧h.next≤(Tg h d a b c e md 1).next∧∀ m,m<h.next→(Tg h d a b c e md 1).get m=h.get m:=by
 have kk:∀ m,m<h.next→(Tg h d a b c e md 1).get m=h.get m:=fun m hm=>by
  unfold Tg
  simp (discharger:=omega) only [H.get_put,H.Zd,H.Zc,H.Zf,if_neg]
 obtain⟨n,hn⟩:∃ n,h.next=n+5:=⟨h.next - 5,by omega⟩
 rw[show h.next - 5=n by omega]
 refine⟨⟨(kk 0 (by omega)).trans hst,?_,?_,by omega,by omega,?_,?_,?_,(kk d ld).trans hd,(kk d2 ld2).trans hq,?_,?_,?_,?_,?_,?_,?_,?_,?_,?_⟩,?_,kk⟩
 ·omega
 ·unfold Tg; simp only[H.Zf,H.Zc]; omega
 all_goals (unfold Tg; first|(simp only[H.Zf,H.Zc]; omega)|(simp (discharger:=omega) only [H.get_put,H.Zd,H.Zc,H.Zf,hn,if_neg,if_pos,if_true]; rfl)|(simp (discharger:=omega) only [H.get_put,H.Zd,H.Zc,H.Zf,hn,if_neg,if_pos,if_true]))
noncomputable def Zd6 (n:Nat) (h:Go.Ev.H) (cr:Cr):Go.Ev.H:=Zgu (J7 h (n+13) (stO n)) (n+20) (txO n) cr.c cr.r
theorem Gt {n m:Nat} {h:Go.Ev.H} (nx:n+23≤h.next) (hm:m<h.next) (m1:m≠n+13) (m2:m≠n+20) (cr:Cr):(Zd6 n h cr).get m=h.get m:=by
 unfold Zd6 Zgu R5 J7
 simp (discharger:=omega) only [H.get_put,H.Zd,H.Zc,H.Zf,if_neg]
section
variable {n d d1 d2 a b c e:Nat} {md:Int} {cr:Cr} {L:List (List C)} {h h2:Go.Ev.H}
theorem ClD.beg (M:ClD n d d1 d2 a b c e md L h) (fb:Y2 a b c e=true) {s:Int} (sz:La cr.c cr.r=some s) (sj:s≤(e:Int) - 1):Zkm [.c (.ptr (n+13) 0),.c (.int .i64 cr.c),.c (.int .i64 cr.r)] h=some (.w (.c (.int .i64 0)),Zd6 n h cr):=by
 obtain⟨f1,f2,f3,l1,l2,f4,f5,f6,f7,f8,f9,f10,f11,f12,f13,f14,f15,f16,f17,f18⟩:=M
 have s9:decide (s≤(e:Int) - 1)=true:=decide_eq_true sj
 unfold Zkm Zd6
 simp (maxSteps:=9^6) +decide (disch:=first|omega|(simp only[lens]<;>omega)|decide) only [go_sem,Zm,Ze,simprocAttr,f15,stO,f4,txO,f5,gdL,f12,f13,f14,f11,f18,fb,sz,s9]<;>rfl
theorem ClD.begun [Opn cr] (M:ClD n d d1 d2 a b c e md L h) {S:List Nat} {V:Nat→List Nat} (Sc:(S.length:Int)≤cr.c) (see:∀ z,z<2+e+a * b→Og a b c e (z:Int)=true→(V z).length=256∧L[z]? = some (pgL (V z))):HE n h.next a b c e cr md S [] V (Zd6 n h cr):=by
 have oc:cr.o=true:=opn
 obtain⟨x,r,o,ch⟩:=cr
 obtain rfl:o=true:=oc
 obtain⟨f1,f2,f3,l1,l2,f4,f5,f6,f7,f8,f9,f10,f11,f12,f13,f14,f15,f16,f17,f18⟩:=M
 refine⟨d,d1,d2,false,[],[],[],[],L,rfl,Zmv L,rfl,rfl,rfl,(fun _ _ e=>by cases e),rfl,(fun _ _ e=>by cases e),⟨fun _=>Sc,rfl,(fun _ _ e=>by cases e)⟩,(fun _ _ e=>by cases e),fun z z1 hz=>⟨(see z z1 hz).1,.inr ⟨rfl,.inr ⟨rfl,(see z z1 hz).2⟩⟩⟩,?_,f2,by omega,?_,l1,l2,?_,?_,?_,?_,?_,?_,?_,?_,?_,?_,?_,?_,?_,?_,?_,?_,?_⟩
 ·rw[Gt f3 (by omega) (by omega) (by omega)]; exact f1
 ·unfold Zd6 Zgu R5 J7; simp only[H.Zc,H.Zf]; omega
 ·unfold Zd6 Zgu R5 J7; simp (discharger:=omega) only [H.get_put,H.Zd,H.Zc,H.Zf,if_neg,if_pos]; rfl
 ·rw[Gt f3 (by omega) (by omega) (by omega)]; exact f5
 ·rw[Gt f3 (by omega) (by omega) (by omega)]; exact f6
 ·rw[Gt f3 (by omega) (by omega) (by omega)]; exact f7
 ·rw[Gt f3 (by omega) (by omega) (by omega)]; exact f8
 ·rw[Gt f3 (by omega) (by omega) (by omega)]; exact f9
 ·show H.get _ (h.next+1)=_; unfold Zd6 Zgu R5 J7; simp (discharger:=omega) only [H.get_put,H.Zd,H.Zc,H.Zf,if_neg,if_pos,if_true]
 ·rw[Gt f3 (by omega) (by omega) (by omega)]; exact f11
 ·rw[Gt f3 (by omega) (by omega) (by omega)]; exact f12
 ·rw[Gt f3 (by omega) (by omega) (by omega)]; exact f13
 ·rw[Gt f3 (by omega) (by omega) (by omega)]; exact f14
 ·show H.get _ h.next=_; unfold Zd6 Zgu R5 J7; simp (discharger:=omega) only [H.get_put,H.Zd,H.Zc,H.Zf,if_neg,if_pos,if_true]; rfl
 ·exact fun _=>f3
 ·rw[Gt f3 (by omega) (by omega) (by omega)]; exact f10
 ·unfold Zd6 Zgu R5 J7; simp (discharger:=omega) only [H.get_put,H.Zd,H.Zc,H.Zf,if_neg,if_pos]; rfl
 ·intro _; unfold Zd6 Zgu R5 J7; simp (discharger:=omega) only [H.get_put,H.Zd,H.Zc,H.Zf,if_neg,if_pos,if_true]; rfl
 ·rw[Gt f3 (by omega) (by omega) (by omega)]; exact f18
end
theorem ty22:K.types.get 22=some ti22:=by kernel_rfl
theorem sz22:ti22.size=1:=by rfl
theorem ag22:ti22.agg=false:=by rfl
theorem de22:ti22.desc=(.int .u64):=by rfl
theorem ze22:ti22.zero=(.c (.int .u64 0)):=by rfl
theorem by22:ti22.bytes=8:=by rfl
theorem ke22 (k:IntKind) (n:Int):Di K 20 22 (.c (.int k n))=true:=by kernel_rfl
theorem ty24:K.types.get 24=some ti24:=by kernel_rfl
theorem sz24:ti24.size=1:=by rfl
theorem ag24:ti24.agg=false:=by rfl
theorem de24:ti24.desc=(.pointer 221):=by rfl
theorem ze24:ti24.zero=(.c (.pnil)):=by rfl
theorem by24:ti24.bytes=8:=by rfl
theorem ty26:K.types.get 26=some ti26:=by kernel_rfl
theorem sz26:ti26.size=1:=by rfl
theorem ag26:ti26.agg=false:=by rfl
theorem de26:ti26.desc=(.pointer 193):=by rfl
theorem ze26:ti26.zero=(.c (.pnil)):=by rfl
theorem by26:ti26.bytes=8:=by rfl
theorem ty28:K.types.get 28=some ti28:=by kernel_rfl
theorem sz28:ti28.size=4:=by rfl
theorem ag28:ti28.agg=true:=by rfl
theorem fo28_0:Zk K 28 0=some (0,ti23):=by kernel_rfl
theorem fo28_1:Zk K 28 1=some (1,ti24):=by kernel_rfl
theorem fo28_2:Zk K 28 2=some (2,ti25):=by kernel_rfl
theorem fo28_3:Zk K 28 3=some (3,ti26):=by kernel_rfl
theorem bu28 (ps:List (Nat × W)):Yd K 28 (some ps)=gW (Z4 K 28 ps ti28.zero.cells):=by kernel_rfl
theorem ze28:ti28.zero=(.g ([.pnil,.pnil,.pnil,.pnil])):=by rfl
theorem by28:ti28.bytes=32:=by rfl
theorem ty55:K.types.get 55=some ti55:=by kernel_rfl
theorem sz55:ti55.size=1:=by rfl
theorem ag55:ti55.agg=false:=by rfl
theorem de55:ti55.desc=(.slice 121):=by rfl
theorem ze55:ti55.zero=(.c (.snil)):=by rfl
theorem by55:ti55.bytes=24:=by rfl
theorem el55:Y1 K 55=some ti121:=by kernel_rfl
theorem ty57:K.types.get 57=some ti57:=by kernel_rfl
theorem sz57:ti57.size=6:=by rfl
theorem ag57:ti57.agg=true:=by rfl
theorem fo57_0:Zk K 57 0=some (0,ti54):=by kernel_rfl
theorem fo57_1:Zk K 57 1=some (4,ti5):=by kernel_rfl
theorem fo57_2:Zk K 57 2=some (5,ti55):=by kernel_rfl
theorem bu57 (ps:List (Nat × W)):Yd K 57 (some ps)=gW (Z4 K 57 ps ti57.zero.cells):=by kernel_rfl
theorem ze57:ti57.zero=(.g ([.int .i64 0,.int .i64 0,.int .i64 0,.int .i64 0,.int .u8 0,.snil])):=by rfl
theorem by57:ti57.bytes=64:=by rfl
theorem ty121:K.types.get 121=some ti121:=by kernel_rfl
theorem sz121:ti121.size=3:=by rfl
theorem ag121:ti121.agg=true:=by rfl
theorem fo121_0:Zk K 121 0=some (0,ti3):=by kernel_rfl
theorem fo121_1:Zk K 121 1=some (1,ti3):=by kernel_rfl
theorem fo121_2:Zk K 121 2=some (2,ti5):=by kernel_rfl
theorem bu121 (ps:List (Nat × W)):Yd K 121 (some ps)=gW (Z4 K 121 ps ti121.zero.cells):=by kernel_rfl
theorem ze121:ti121.zero=(.g ([.int .i64 0,.int .i64 0,.int .u8 0])):=by rfl
theorem by121:ti121.bytes=24:=by rfl
theorem ty191:K.types.get 191=some ti191:=by kernel_rfl
theorem sz191:ti191.size=1:=by rfl
theorem ag191:ti191.agg=false:=by rfl
theorem de191:ti191.desc=(.slice 404):=by rfl
theorem ze191:ti191.zero=(.c (.snil)):=by rfl
theorem by191:ti191.bytes=24:=by rfl
theorem el191:Y1 K 191=some ti404:=by kernel_rfl
theorem ty193:K.types.get 193=some ti193:=by kernel_rfl
theorem sz193:ti193.size=4:=by rfl
theorem ag193:ti193.agg=true:=by rfl
theorem fo193_0:Zk K 193 0=some (0,ti117):=by kernel_rfl
theorem fo193_1:Zk K 193 1=some (1,ti191):=by kernel_rfl
theorem fo193_2:Zk K 193 2=some (2,ti3):=by kernel_rfl
theorem fo193_3:Zk K 193 3=some (3,ti3):=by kernel_rfl
theorem bu193 (ps:List (Nat × W)):Yd K 193 (some ps)=gW (Z4 K 193 ps ti193.zero.cells):=by kernel_rfl
theorem ze193:ti193.zero=(.g ([.snil,.snil,.int .i64 0,.int .i64 0])):=by rfl
theorem by193:ti193.bytes=64:=by rfl
theorem ty202:K.types.get 202=some ti202:=by kernel_rfl
theorem sz202:ti202.size=1:=by rfl
theorem ag202:ti202.agg=false:=by rfl
theorem de202:ti202.desc=(.pointer 265):=by rfl
theorem ze202:ti202.zero=(.c (.pnil)):=by rfl
theorem by202:ti202.bytes=8:=by rfl
theorem ty205:K.types.get 205=some ti205:=by kernel_rfl
theorem sz205:ti205.size=1:=by rfl
theorem ag205:ti205.agg=false:=by rfl
theorem de205:ti205.desc=(.pointer 268):=by rfl
theorem ze205:ti205.zero=(.c (.pnil)):=by rfl
theorem by205:ti205.bytes=8:=by rfl
theorem ty208:K.types.get 208=some ti208:=by kernel_rfl
theorem sz208:ti208.size=1:=by rfl
theorem ag208:ti208.agg=false:=by rfl
theorem de208:ti208.desc=(.pointer 211):=by rfl
theorem ze208:ti208.zero=(.c (.pnil)):=by rfl
theorem by208:ti208.bytes=8:=by rfl
theorem ty209:K.types.get 209=some ti209:=by kernel_rfl
theorem sz209:ti209.size=1:=by rfl
theorem ag209:ti209.agg=false:=by rfl
theorem de209:ti209.desc=(.slice 406):=by rfl
theorem ze209:ti209.zero=(.c (.snil)):=by rfl
theorem by209:ti209.bytes=24:=by rfl
theorem el209:Y1 K 209=some ti406:=by kernel_rfl
theorem ty211:K.types.get 211=some ti211:=by kernel_rfl
theorem sz211:ti211.size=3:=by rfl
theorem ag211:ti211.agg=true:=by rfl
theorem fo211_0:Zk K 211 0=some (0,ti26):=by kernel_rfl
theorem fo211_1:Zk K 211 1=some (1,ti209):=by kernel_rfl
theorem fo211_2:Zk K 211 2=some (2,ti40):=by kernel_rfl
theorem bu211 (ps:List (Nat × W)):Yd K 211 (some ps)=gW (Z4 K 211 ps ti211.zero.cells):=by kernel_rfl
theorem ze211:ti211.zero=(.g ([.pnil,.snil,.snil])):=by rfl
theorem by211:ti211.bytes=56:=by rfl
theorem ty212:K.types.get 212=some ti212:=by kernel_rfl
theorem sz212:ti212.size=1:=by rfl
theorem ag212:ti212.agg=false:=by rfl
theorem de212:ti212.desc=(.pointer 216):=by rfl
theorem ze212:ti212.zero=(.c (.pnil)):=by rfl
theorem by212:ti212.bytes=8:=by rfl
theorem ty214:K.types.get 214=some ti214:=by kernel_rfl
theorem sz214:ti214.size=4:=by rfl
theorem ag214:ti214.agg=true:=by rfl
theorem fo214_0:Zk K 214 0=some (0,ti105):=by kernel_rfl
theorem fo214_1:Zk K 214 1=some (1,ti40):=by kernel_rfl
theorem fo214_2:Zk K 214 2=some (2,ti40):=by kernel_rfl
theorem fo214_3:Zk K 214 3=some (3,ti40):=by kernel_rfl
theorem bu214 (ps:List (Nat × W)):Yd K 214 (some ps)=gW (Z4 K 214 ps ti214.zero.cells):=by kernel_rfl
theorem ze214:ti214.zero=(.g ([.snil,.snil,.snil,.snil])):=by rfl
theorem by214:ti214.bytes=96:=by rfl
theorem ty216:K.types.get 216=some ti216:=by kernel_rfl
theorem sz216:ti216.size=13:=by rfl
theorem ag216:ti216.agg=true:=by rfl
theorem fo216_0:Zk K 216 0=some (0,ti34):=by kernel_rfl
theorem fo216_1:Zk K 216 1=some (1,ti214):=by kernel_rfl
theorem fo216_2:Zk K 216 2=some (5,ti214):=by kernel_rfl
theorem fo216_3:Zk K 216 3=some (9,ti4):=by kernel_rfl
theorem fo216_4:Zk K 216 4=some (10,ti3):=by kernel_rfl
theorem fo216_5:Zk K 216 5=some (11,ti3):=by kernel_rfl
theorem fo216_6:Zk K 216 6=some (12,ti40):=by kernel_rfl
theorem bu216 (ps:List (Nat × W)):Yd K 216 (some ps)=gW (Z4 K 216 ps ti216.zero.cells):=by kernel_rfl
theorem ze216:ti216.zero=(.g ([.int .u32 0,.snil,.snil,.snil,.snil,.snil,.snil,.snil,.snil,.bool false,.int .i64 0,.int .i64 0,.snil])):=by rfl
theorem by216:ti216.bytes=248:=by rfl
theorem ty217:K.types.get 217=some ti217:=by kernel_rfl
theorem sz217:ti217.size=1:=by rfl
theorem ag217:ti217.agg=false:=by rfl
theorem de217:ti217.desc=(.slice 407):=by rfl
theorem ze217:ti217.zero=(.c (.snil)):=by rfl
theorem by217:ti217.bytes=24:=by rfl
theorem el217:Y1 K 217=some ti407:=by kernel_rfl
theorem ty219:K.types.get 219=some ti219:=by kernel_rfl
theorem sz219:ti219.size=8:=by rfl
theorem ag219:ti219.agg=true:=by rfl
theorem fo219_0:Zk K 219 0=some (0,ti4):=by kernel_rfl
theorem fo219_1:Zk K 219 1=some (1,ti107):=by kernel_rfl
theorem fo219_2:Zk K 219 2=some (4,ti40):=by kernel_rfl
theorem fo219_3:Zk K 219 3=some (5,ti40):=by kernel_rfl
theorem fo219_4:Zk K 219 4=some (6,ti40):=by kernel_rfl
theorem fo219_5:Zk K 219 5=some (7,ti217):=by kernel_rfl
theorem bu219 (ps:List (Nat × W)):Yd K 219 (some ps)=gW (Z4 K 219 ps ti219.zero.cells):=by kernel_rfl
theorem ze219:ti219.zero=(.g ([.bool false,.int .u32 0,.snil,.snil,.snil,.snil,.snil,.snil])):=by rfl
theorem by219:ti219.bytes=160:=by rfl
theorem ty221:K.types.get 221=some ti221:=by kernel_rfl
theorem sz221:ti221.size=20:=by rfl
theorem ag221:ti221.agg=true:=by rfl
theorem fo221_0:Zk K 221 0=some (0,ti54):=by kernel_rfl
theorem fo221_1:Zk K 221 1=some (4,ti5):=by kernel_rfl
theorem fo221_2:Zk K 221 2=some (5,ti208):=by kernel_rfl
theorem fo221_3:Zk K 221 3=some (6,ti202):=by kernel_rfl
theorem fo221_4:Zk K 221 4=some (7,ti205):=by kernel_rfl
theorem fo221_5:Zk K 221 5=some (8,ti212):=by kernel_rfl
theorem fo221_6:Zk K 221 6=some (9,ti219):=by kernel_rfl
theorem fo221_7:Zk K 221 7=some (17,ti4):=by kernel_rfl
theorem fo221_8:Zk K 221 8=some (18,ti105):=by kernel_rfl
theorem fo221_9:Zk K 221 9=some (19,ti40):=by kernel_rfl
theorem bu221 (ps:List (Nat × W)):Yd K 221 (some ps)=gW (Z4 K 221 ps ti221.zero.cells):=by kernel_rfl
theorem ze221:ti221.zero=(.g ([.int .i64 0,.int .i64 0,.int .i64 0,.int .i64 0,.int .u8 0,.pnil,.pnil,.pnil,.pnil,.bool false,.int .u32 0,.snil,.snil,.snil,.snil,.snil,.snil,.bool false,.snil,.snil])):=by rfl
theorem by221:ti221.bytes=288:=by rfl
theorem ty265:K.types.get 265=some ti265:=by kernel_rfl
theorem sz265:ti265.size=3:=by rfl
theorem ag265:ti265.agg=true:=by rfl
theorem fo265_0:Zk K 265 0=some (0,ti3):=by kernel_rfl
theorem fo265_1:Zk K 265 1=some (1,ti40):=by kernel_rfl
theorem fo265_2:Zk K 265 2=some (2,ti3):=by kernel_rfl
theorem bu265 (ps:List (Nat × W)):Yd K 265 (some ps)=gW (Z4 K 265 ps ti265.zero.cells):=by kernel_rfl
theorem ze265:ti265.zero=(.g ([.int .i64 0,.snil,.int .i64 0])):=by rfl
theorem by265:ti265.bytes=40:=by rfl
theorem ty266:K.types.get 266=some ti266:=by kernel_rfl
theorem sz266:ti266.size=1:=by rfl
theorem ag266:ti266.agg=false:=by rfl
theorem de266:ti266.desc=(.slice 409):=by rfl
theorem ze266:ti266.zero=(.c (.snil)):=by rfl
theorem by266:ti266.bytes=24:=by rfl
theorem el266:Y1 K 266=some ti409:=by kernel_rfl
theorem ty268:K.types.get 268=some ti268:=by kernel_rfl
theorem sz268:ti268.size=7:=by rfl
theorem ag268:ti268.agg=true:=by rfl
theorem fo268_0:Zk K 268 0=some (0,ti54):=by kernel_rfl
theorem fo268_1:Zk K 268 1=some (4,ti266):=by kernel_rfl
theorem fo268_2:Zk K 268 2=some (5,ti34):=by kernel_rfl
theorem fo268_3:Zk K 268 3=some (6,ti4):=by kernel_rfl
theorem bu268 (ps:List (Nat × W)):Yd K 268 (some ps)=gW (Z4 K 268 ps ti268.zero.cells):=by kernel_rfl
theorem ze268:ti268.zero=(.g ([.int .i64 0,.int .i64 0,.int .i64 0,.int .i64 0,.snil,.int .u32 0,.bool false])):=by rfl
theorem by268:ti268.bytes=64:=by rfl
theorem ty404:K.types.get 404=some ti404:=by kernel_rfl
theorem sz404:ti404.size=257:=by rfl
theorem ag404:ti404.agg=true:=by rfl
theorem fo404_0:Zk K 404 0=some (0,ti3):=by kernel_rfl
theorem fo404_1:Zk K 404 1=some (1,ti73):=by kernel_rfl
theorem bu404 (ps:List (Nat × W)):Yd K 404 (some ps)=gW (Z4 K 404 ps ti404.zero.cells):=by kernel_rfl
theorem ze404:ti404.zero=(.g (List.replicate 1 (.int .i64 0)++List.replicate 256 (.int .u8 0))):=by rfl
theorem by404:ti404.bytes=264:=by rfl
theorem ty406:K.types.get 406=some ti406:=by kernel_rfl
theorem sz406:ti406.size=258:=by rfl
theorem ag406:ti406.agg=true:=by rfl
theorem fo406_0:Zk K 406 0=some (0,ti3):=by kernel_rfl
theorem fo406_1:Zk K 406 1=some (1,ti73):=by kernel_rfl
theorem fo406_2:Zk K 406 2=some (257,ti4):=by kernel_rfl
theorem bu406 (ps:List (Nat × W)):Yd K 406 (some ps)=gW (Z4 K 406 ps ti406.zero.cells):=by kernel_rfl
theorem ze406:ti406.zero=(.g (List.replicate 1 (.int .i64 0)++List.replicate 256 (.int .u8 0)++List.replicate 1 (.bool false))):=by rfl
theorem by406:ti406.bytes=272:=by rfl
theorem ty407:K.types.get 407=some ti407:=by kernel_rfl
theorem sz407:ti407.size=258:=by rfl
theorem ag407:ti407.agg=true:=by rfl
theorem fo407_0:Zk K 407 0=some (0,ti5):=by kernel_rfl
theorem fo407_1:Zk K 407 1=some (1,ti3):=by kernel_rfl
theorem fo407_2:Zk K 407 2=some (2,ti73):=by kernel_rfl
theorem bu407 (ps:List (Nat × W)):Yd K 407 (some ps)=gW (Z4 K 407 ps ti407.zero.cells):=by kernel_rfl
theorem ze407:ti407.zero=(.g (List.replicate 1 (.int .u8 0)++List.replicate 1 (.int .i64 0)++List.replicate 256 (.int .u8 0))):=by rfl
theorem by407:ti407.bytes=272:=by rfl
theorem ty409:K.types.get 409=some ti409:=by kernel_rfl
theorem sz409:ti409.size=6:=by rfl
theorem ag409:ti409.agg=true:=by rfl
theorem fo409_0:Zk K 409 0=some (0,ti107):=by kernel_rfl
theorem fo409_1:Zk K 409 1=some (3,ti3):=by kernel_rfl
theorem fo409_2:Zk K 409 2=some (4,ti3):=by kernel_rfl
theorem fo409_3:Zk K 409 3=some (5,ti105):=by kernel_rfl
theorem bu409 (ps:List (Nat × W)):Yd K 409 (some ps)=gW (Z4 K 409 ps ti409.zero.cells):=by kernel_rfl
theorem ze409:ti409.zero=(.g ([.int .u32 0,.snil,.snil,.int .i64 0,.int .i64 0,.snil])):=by rfl
theorem by409:ti409.bytes=96:=by rfl
attribute [go_sem] ty22 sz22 ag22 de22 ze22 by22 ke22 ty24 sz24 ag24 de24 ze24 by24 ty26 sz26 ag26 de26 ze26 by26 ty28 sz28 ag28 fo28_0 fo28_1 fo28_2 fo28_3 bu28 ze28 by28 ty55 sz55 ag55 de55 ze55 by55 el55 ty57 sz57 ag57 fo57_0 fo57_1 fo57_2 bu57 ze57 by57 ty121 sz121 ag121 fo121_0 fo121_1 fo121_2 bu121 ze121 by121 ty191 sz191 ag191 de191 ze191 by191 el191 ty193 sz193 ag193 fo193_0 fo193_1 fo193_2 fo193_3 bu193 ze193 by193 ty202 sz202 ag202 de202 ze202 by202 ty205 sz205 ag205 de205 ze205 by205 ty208 sz208 ag208 de208 ze208 by208 ty209 sz209 ag209 de209 ze209 by209 el209 ty211 sz211 ag211 fo211_0 fo211_1 fo211_2 bu211 ze211 by211 ty212 sz212 ag212 de212 ze212 by212 ty214 sz214 ag214 fo214_0 fo214_1 fo214_2 fo214_3 bu214 ze214 by214 ty216 sz216 ag216 fo216_0 fo216_1 fo216_2 fo216_3 fo216_4 fo216_5 fo216_6 bu216 ze216 by216 ty217 sz217 ag217 de217 ze217 by217 el217 ty219 sz219 ag219 fo219_0 fo219_1 fo219_2 fo219_3 fo219_4 fo219_5 bu219 ze219 by219 ty221 sz221 ag221 fo221_0 fo221_1 fo221_2 fo221_3 fo221_4 fo221_5 fo221_6 fo221_7 fo221_8 fo221_9 bu221 ze221 by221 ty265 sz265 ag265 fo265_0 fo265_1 fo265_2 bu265 ze265 by265 ty266 sz266 ag266 de266 ze266 by266 el266 ty268 sz268 ag268 fo268_0 fo268_1 fo268_2 fo268_3 bu268 ze268 by268 ty404 sz404 ag404 fo404_0 fo404_1 bu404 ze404 by404 ty406 sz406 ag406 fo406_0 fo406_1 fo406_2 bu406 ze406 by406 ty407 sz407 ag407 fo407_0 fo407_1 fo407_2 bu407 ze407 by407 ty409 sz409 ag409 fo409_0 fo409_1 fo409_2 fo409_3 bu409 ze409 by409
theorem rs15:Tryz.f15.results.toList=[.cell 2 28,.tmp 3]:=rfl
theorem rs50:Tryz.f50.results.toList=[.tmp 2,.tmp 3]:=rfl
theorem rs52:Tryz.f52.results.toList=[.tmp 8,.tmp 9]:=rfl
theorem rs110:Tryz.f110.results.toList=[.tmp 2,.tmp 3]:=rfl
theorem rs111:Tryz.f111.results.toList=[.tmp 2,.tmp 3]:=rfl
attribute [go_sem] rs15 rs50 rs52 rs110 rs111
section
variable (Hh:Hearts K Tryz.prog)
include Hh
theorem Z14 (h:Go.Ev.H):Zg 93 [.g [.int .i64 4,.int .i64 60,.int .i64 8,.int .i64 40]] h (.w (.c (.bool true))) h:=Zv.closed fits Hh Zf4 gl (n:=20000) (by kernel_rfl) rfl rfl h
theorem Zw3 (h:Go.Ev.H):Zg 109 [.g [.int .i64 4,.int .i64 60,.int .i64 8,.int .i64 40]] h (.w (.c (.int .i64 282))) h:=Zv.closed fits Hh Zf4 gl (n:=20000) (by kernel_rfl) rfl rfl h
theorem Z5n {h:Go.Ev.H} {n:Nat} {L:List (List C)} (hn:h.get n=some (.row 256 L false)) (nl:n<h.next) (Ll:L.length=282) (lf:Yv K 117 (.c (.slice n 0 282 256))=true) :
  ∃ h' q m sz x,Zg 50 [.c (.slice n 0 282 256)] h (.tup [.c (.ptr q 0),.c (.int .i64 0)]) h'∧h.next≤q∧q<h'.next∧h'.get q=some (.row sz [x] false)∧read1 sz [x] 0=some (.slice m 0 282 256)∧∀ m,m<h.next→h'.get m=h.get m:=by
 have rm:Me 256 L 0 256 282=some L:=by rw[←Ll]; exact Sr 256 L
 obtain⟨v,h',cc,q,m,sz,x,rfl,q1,q2,q3,q4,hk⟩:∃ v h',Zg 50 [.c (.slice n 0 282 256)] h v h'∧∃ q m sz x,v=.tup [.c (.ptr q 0),.c (.int .i64 0)]∧h.next≤q∧q<h'.next∧h'.get q=some (.row sz [x] false)∧read1 sz [x] 0=some (.slice m 0 282 256)∧∀ m,m<h.next→h'.get m=h.get m:=by
  rcases L with _|⟨x0,L⟩
  ·simp at Ll
  ·
   refine Jd Hh Tryz.f50 ?_
   iterate 10 (first|apply Zp|apply Z6|apply Yb|((first|apply Goes.Zn|apply Goes.ops2 fits Hh Za); · simp (maxSteps:=9^6) +decide (disch:=first|omega|(simp only[lens]<;>omega)|decide) only [go_sem,Zm,Ze,simprocAttr,lf,hn,rm,Ll,List.length_append,Nat.zero_add,Zt,J6,Yr,Uy,Jb,U2,Qo,Ny,Ql,Qh,Y4,M0,J8,List.replicate_succ,List.replicate_zero,Nat.zero_mul]<;>rfl))
   refine⟨_,_,Zj,_,_,_,_,rfl,?_,?_,by first|exact Eb .. | (rw[Gp (by simp only[H.Zc,H.Yo]<;>omega)]),rfl,fun m hm=>by exact F4⟩
   ·first|omega|(simp only[H.Zc,H.Yo]<;>omega)
   ·first|omega|(simp only[H.Zc,H.Yo]<;>omega)
 exact⟨h',q,m,sz,x,cc,q1,q2,q3,q4,hk⟩
theorem Z5o (h:Go.Ev.H):∃ h' r,Zg 110 [.c (.int .i64 40)] h (.tup [.c (.ptr r 0),.c (.int .i64 0)]) h'∧h.next≤h'.next∧∀ m,m<h.next→h'.get m=h.get m:=by
 obtain⟨v,h',cc,r,rfl,n1,hk⟩:∃ v h',Zg 110 [.c (.int .i64 40)] h v h'∧∃ r,v=.tup [.c (.ptr r 0),.c (.int .i64 0)]∧h.next≤h'.next∧∀ m,m<h.next→h'.get m=h.get m:=by
  refine Jd Hh Tryz.f110 ?_
  iterate 10 (first|apply Zp|apply Z6|apply Yb|refine Goes.Zn Nl ?_|refine Zy Hh Za Nl ?_)
  exact⟨_,_,Zj,_,rfl,(by first|omega|(simp only[H.Zc,H.Zf]<;>omega)),fun m hm=>by exact F4⟩
 exact⟨h',r,cc,n1,hk⟩
theorem Z5m (h:Go.Ev.H):∃ h' r,Zg 111 [.g [.int .i64 4,.int .i64 60,.int .i64 8,.int .i64 40]] h (.tup [.c (.ptr r 0),.c (.int .i64 0)]) h'∧h.next≤h'.next∧∀ m,m<h.next→h'.get m=h.get m:=by
 have cM:=fun h=>Z14 Hh h
 have rd4':Zm 4 [[.int .i64 4,.int .i64 60,.int .i64 8,.int .i64 40]] 0 4=some [.int .i64 4,.int .i64 60,.int .i64 8,.int .i64 40]:=rfl
 obtain⟨v,h',cc,r,rfl,n1,hk⟩:∃ v h',Zg 111 [.g [.int .i64 4,.int .i64 60,.int .i64 8,.int .i64 40]] h v h'∧∃ r,v=.tup [.c (.ptr r 0),.c (.int .i64 0)]∧h.next≤h'.next∧∀ m,m<h.next→h'.get m=h.get m:=by
  refine Jd Hh Tryz.f111 ?_
  have Jf:=@rd4'
  iterate 4 (first|apply Zp|refine Zy Hh Za Df ?_)
  iterate 6 (first|apply Zp|apply Z6|apply Yb|refine Goes.Zn Df ?_|refine Zy Hh (U5 Za cM) Df ?_)
  exact⟨_,_,Jk,_,rfl,(by first|omega|(simp only[H.Zc,H.Zf]<;>omega)),fun m hm=>by exact F4⟩
 exact⟨h',r,cc,n1,hk⟩
theorem Z6w {h:Go.Ev.H} {q m sz:Nat} {x:List C} (hq:h.get q=some (.row sz [x] false)) (hx:read1 sz [x] 0=some (.slice m 0 282 256)) (ql:q<h.next) {md:Int} (m1:1≤md) (m3:md≤3) (lf:Yv K 117 (.c (.slice m 0 282 256))=true) :
  ∃ h' s,Zg 52 [.c (.ptr q 0),.g [.int .i64 4,.int .i64 60,.int .i64 8,.int .i64 40],.c (.int .u8 md),.c (.int .u32 1)] h (.tup [.c (.ptr s 0),.c (.int .i64 0)]) h'∧h.next≤h'.next∧∀ m,m<h.next→h'.get m=h.get m:=by
 have cM:=fun h=>Z14 Hh h
 have cB:=fun h=>Zw3 Hh h
 have hx':x[0]? = some (.slice m 0 282 256):=by
  unfold read1 at hx
  rw[Nat.zero_div,Nat.zero_mod,List.getElem?_cons_zero] at hx
  exact hx
 have rd4':Zm 4 [[.int .i64 4,.int .i64 60,.int .i64 8,.int .i64 40]] 0 4=some [.int .i64 4,.int .i64 60,.int .i64 8,.int .i64 40]:=rfl
 obtain⟨v,h',cc,s,rfl,n1,hk⟩:∃ v h',Zg 52 [.c (.ptr q 0),.g [.int .i64 4,.int .i64 60,.int .i64 8,.int .i64 40],.c (.int .u8 md),.c (.int .u32 1)] h v h'∧∃ s,v=.tup [.c (.ptr s 0),.c (.int .i64 0)]∧h.next≤h'.next∧∀ m,m<h.next→h'.get m=h.get m:=by
  refine Jd Hh Tryz.f52 ?_
  have Jf:=Qu @rd4' @hq @hx' @lf @Nat.zero_div @Nat.zero_mod
  iterate 4 (first|apply Zp|refine Zy Hh Za Uf ?_)
  iterate 5 (first|apply Zp|apply Z6|refine Goes.Zn Uf ?_|refine Zy Hh (U5 Za cM) Uf ?_)
  iterate 4 (first|apply Zp|apply Z6|refine Goes.Zn Uf ?_|refine Ms Hh (U5 Za cB) Zd4 ?_)
  refine Dc fun hA eA=>?_
  have nA:hA.next=h.next+1:=by rw[eA]; first|rfl|simp only[H.Zf,H.Zc]
  have kA:∀ m,m<h.next→hA.get m=h.get m:=fun m hm=>by rw[eA]; exact F4
  have aA:hA.get h.next=some (.row 4 [[.int .i64 4,.int .i64 60,.int .i64 8,.int .i64 40]] false):=by rw[eA]; exact Jk
  clear eA
  obtain⟨hB,r1,c5,nB,kB⟩:=Z5o Hh hA
  have aB:=(kB h.next (by omega)).trans aA
  obtain⟨hC,r2,c6,nC,kC⟩:=Z5m Hh hB
  have aC:=(kC h.next (by omega)).trans aB
  have Jf:=Oz Jf @aA @aB @aC
  iterate 2 (first|apply Zp|refine Zy Hh (Zu Za c5) Uf ?_)
  iterate 4 (first|apply Zp|apply Yb|refine Zy Hh (Zu Za c6) Uf ?_)
  exact⟨_,_,Jk,_,rfl,(by first|omega|(simp only[H.Zc,H.Zf]<;>omega)),fun m hm=>by refine Eq.trans ?_ ((kC m (by omega)).trans ((kB m (by omega)).trans (kA m hm))); exact F4⟩
 exact⟨h',s,cc,n1,hk⟩
end
section
variable (Hh:Hearts K Tryz.prog)
include Hh
theorem Z1k {md:Int} (m1:1≤md) (m3:md≤3) {h:Go.Ev.H} (hst:h.get 0=some Gr) (l0:0<h.next) (lf:∀ p,Yv K 117 (.c (.slice p 0 282 256))=true) (lt:Yv K 55 (.c .snil)=true) :
  ∃ h' n d d1 d2 r q,Zg 15 [.g [.int .i64 4,.int .i64 60,.int .i64 8,.int .i64 40,.int .u8 md,.snil]] h (.tup [.g [.ptr (n+13) 0,.ptr r 0,.ptr d 0,.ptr q 0],.c (.bool true)]) h'∧ClD n d d1 d2 4 60 8 40 md Vt h'∧h.next≤n∧∀ m,m<h.next→h'.get m=h.get m:=by
 have cM:∀ h,Zg 48 [.g [.int .i64 4,.int .i64 60,.int .i64 8,.int .i64 40]] h (.tup [.c (.slice h.next 0 282 256),.c (.int .i64 0)]) (h.new (.row 256 Vt false)):=fun h=>Zx7 Hh rfl
 have r64:Zm 6 [[.int .i64 4,.int .i64 60,.int .i64 8,.int .i64 40,.int .u8 md,.snil]] 0 4=some [.int .i64 4,.int .i64 60,.int .i64 8,.int .i64 40]:=rfl
 have r44:∀ a b c d:C,Zm 4 [[a,b,c,d]] 0 4=some [a,b,c,d]:=fun _ _ _ _=>rfl
 have il:Vt.length=282:=by kernel_rfl
 have im:imB Vt=true:=by kernel_rfl
 have f4:Y2 4 60 8 40=true:=by kernel_rfl
 obtain⟨I,hI⟩:∃ I,Vt=I:=⟨_,rfl⟩
 simp only[hI] at cM il im ⊢
 obtain⟨v,h',cc,n,d,d1,d2,r,q,rfl,M,nn,hk⟩:∃ v h',Zg 15 [.g [.int .i64 4,.int .i64 60,.int .i64 8,.int .i64 40,.int .u8 md,.snil]] h v h'∧∃ n d d1 d2 r q,v=.tup [.g [.ptr (n+13) 0,.ptr r 0,.ptr d 0,.ptr q 0],.c (.bool true)]∧ClD n d d1 d2 4 60 8 40 md I h'∧h.next≤n∧∀ m,m<h.next→h'.get m=h.get m:=by
  refine Jd Hh Tryz.f15 ?_
  have Jf:=Qu @r64 @il @im @f4 @lf @lt
  iterate 3 (first|apply Zp|refine Zy Hh Za Uf ?_)
  iterate 17 (first|apply Zp|apply Z6|apply Yk|apply Oe|apply Yt|refine Goes.Zn Uf ?_|refine Zy Hh (U5 Za cM) Uf ?_)
  iterate 2 (first|apply Zp|refine Zy Hh (EY Za (Ztv Hh)) Uf ?_)
  refine Dc fun hA eA=>?_
  have nA:hA.next=h.next+6:=by rw[eA]; simp only[H.Zf,H.Zc]
  have kA:∀ m,m<h.next→hA.get m=h.get m:=fun m hm=>by rw[eA]; exact Jg
  have b0:hA.get h.next=some (.row 6 [[.int .i64 4,.int .i64 60,.int .i64 8,.int .i64 40,.int .u8 md,.snil]] false):=by rw[eA]; exact Jk
  obtain⟨w,wl,b1⟩:∃ w:List C,w.length=4∧hA.get (h.next+1)=some (.row 4 [w] false):=⟨_,rfl,by rw[eA]; exact Jk⟩
  have b2:hA.get (h.next+2)=some (.row 256 I false):=by rw[eA]; exact Jk
  have b4:hA.get (h.next+4)=some (.row 256 I false):=by rw[eA]; exact Z5
  have b5:hA.get (h.next+5)=some (.row 6 [dkL ⟨h.next+3,h.next+4,282,.snil,0,0⟩] false):=by rw[eA]; exact Z5
  have sA:=(kA 0 l0).trans hst
  clear eA
  obtain⟨hB,q,m,sz,x,c11,q1,q2,q3,q4,kB⟩:=Z5n Hh b2 (by omega) il (lf _)
  have B0:=(kB h.next (by omega)).trans b0
  have B4:=(kB _ (by omega)).trans b4
  have B5:=(kB _ (by omega)).trans b5
  have sB:=(kB 0 (by omega)).trans sA
  obtain⟨N,hN⟩:∃ N,hB.next=N+5:=⟨hB.next - 5,by omega⟩
  have Jf:=Oz Jf @b0 @B0 @B5
  iterate 7 (first|apply Zp|apply Z6|refine Goes.Zn Uf ?_|refine Zy Hh (Zu Za c11) Uf ?_)
  iterate 2 (first|apply Zp|refine Zy Hh (EY Za (Zyp Hh)) Uf ?_)
  refine Dc fun hC eC=>?_
  have ND:=Z6n (h:=hB) (by omega) sB (d:=h.next+5) (d1:=h.next+3) (d2:=h.next+4) (a:=4) (b:=60) (c:=8) (e:=40) (L:=I) (by omega) (by omega) B5 B4 md
  have eC':hC=Tg hB (h.next+5) 4 60 8 40 md 1:=eC
  rw[←eC',show hB.next - 5=N by omega] at ND
  obtain⟨MC,nC,kC⟩:=ND
  clear eC eC'
  have C0:=(kC h.next (by omega)).trans B0
  have Cq:=(kC q q2).trans q3
  obtain⟨hD,s,c15,nD,kD⟩:=Z6w Hh Cq q4 (by omega) m1 m3 (lf _)
  have D1:=(kD (h.next+1) (by omega)).trans ((kC _ (by omega)).trans ((kB _ (by omega)).trans b1))
  have nB6:h.next+6≤hD.next:=by omega
  have Jf:=Mt Jf @C0 @D1 @wl @r44
  iterate 4 (first|apply Zp|apply Yb|refine Zy Hh (Zu Za c15) Uf ?_)
  refine⟨_,_,Z5,N,h.next+5,h.next+3,h.next+4,s,q,?_,(MC.keep nD fun m hm=>kD m (by have:=MC.nx; omega)).but (w:=h.next+1) ?_ ⟨by omega,by omega,by omega,by omega⟩ (fun m hm hne=>?_),by omega,fun m hm=>?_⟩
  ·rw[hN]
  ·first|omega|(simp only[H.Zf,H.Zc]<;>omega)
  ·exact Jg
  ·refine Eq.trans ?_ ((kD m (by omega)).trans ((kC m (by omega)).trans ((kB m (by omega)).trans (kA m hm)))); exact Jg
 exact⟨h',n,d,d1,d2,r,q,cc,M,nn,hk⟩
end
noncomputable def V4 (z:Nat):List Nat:=unN ((Vt[z]?).getD [])
theorem Z2d:∀ z,z<282→(V4 z).length=256∧Vt[z]? = some (pgL (V4 z)):=by
 have il:Vt.length=282:=by kernel_rfl
 have ib:Vt.all (fun x=>Nat.beq x.length 256&&Zld x)=true:=by kernel_rfl
 intro z hz
 have hx:Vt[z]? = some Vt[z]:=List.getElem?_eq_getElem (by omega)
 have:=List.all_eq_true.1 ib _ (List.getElem_mem (by omega:z<Vt.length))
 rw[Bool.and_eq_true] at this
 obtain⟨ns,e,nl⟩:=Zdi this.2
 have xl:=Nat.eq_of_beq_eq_true this.1
 have hx':Vt[z]? = some (pgL ns):=hx.trans (congrArg some e)
 have v:V4 z=ns.map (· % 256):=by unfold V4; rw[hx',Option.getD_some,Ga]
 rw[v]
 refine⟨by rw[List.length_map,nl]; exact xl,?_⟩
 rw[hx',Zjz]
end Go.Proofs.YtdmendgkbikkaaaGreatDoor
