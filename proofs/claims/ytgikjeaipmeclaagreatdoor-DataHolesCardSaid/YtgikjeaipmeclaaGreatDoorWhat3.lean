/- A geometry that may be. -/
import Derived.Test.YtgikjeaipmeclaaGreatDoorSli
import Derived.Test.YtgikjeaipmeclaaGreatDoorEvC
set_option linter.unusedSimpArgs false
set_option linter.unusedVariables false
set_option linter.unusedSectionVars false
set_option maxRecDepth 100000
namespace Go.Proofs.YtgikjeaipmeclaaGreatDoor
open Go.Ev
structure Fine (gr sz ino jr:Nat):Prop where
 gr1:1≤gr
 gr4:gr≤4
 sz1:16≤sz
 sz2:sz≤512
 ino1:4≤ino
 ino2:ino≤64
 ino4:ino % 4=0
 jr1:40≤jr
 jr2:jr≤256
 fit:3+ino / 4≤sz
 all:2+jr+gr * sz≤2048
def Yn (gr sz ino jr:Nat):List C:=[.int .i64 gr,.int .i64 sz,.int .i64 ino,.int .i64 jr]
theorem Ze1 {j k b:Nat} (h:j<k):j * b+b≤k * b:=by
 have:=Nat.mul_le_mul_right b h
 rwa [Nat.succ_mul] at this
theorem ty3:K.types.get 3=some ti3:=by kernel_rfl
theorem sz3:ti3.size=1:=by rfl
theorem ag3:ti3.agg=false:=by rfl
theorem de3:ti3.desc=(.int .i64):=by rfl
theorem ze3:ti3.zero=(.c (.int .i64 0)):=by rfl
theorem by3:ti3.bytes=8:=by rfl
theorem ke3 (k:IntKind) (n:Int):Dj K 20 3 (.c (.int k n))=true:=by kernel_rfl
theorem ty4:K.types.get 4=some ti4:=by kernel_rfl
theorem sz4:ti4.size=1:=by rfl
theorem ag4:ti4.agg=false:=by rfl
theorem de4:ti4.desc=.bool:=by rfl
theorem ze4:ti4.zero=(.c (.bool false)):=by rfl
theorem by4:ti4.bytes=1:=by rfl
theorem ty48:K.types.get 48=some ti48:=by kernel_rfl
theorem sz48:ti48.size=4:=by rfl
theorem ag48:ti48.agg=true:=by rfl
theorem fo48_0:Zn K 48 0=some (0,ti3):=by kernel_rfl
theorem fo48_1:Zn K 48 1=some (1,ti3):=by kernel_rfl
theorem fo48_2:Zn K 48 2=some (2,ti3):=by kernel_rfl
theorem fo48_3:Zn K 48 3=some (3,ti3):=by kernel_rfl
theorem bu48 (ps:List (Nat × W)):Yc K 48 (some ps)=gW (Z9 K 48 ps ti48.zero.cells):=by kernel_rfl
theorem ze48:ti48.zero=(.g ([.int .i64 0,.int .i64 0,.int .i64 0,.int .i64 0])):=by rfl
theorem by48:ti48.bytes=32:=by rfl
attribute [go_sem] ty3 sz3 ag3 de3 ze3 by3 ke3 ty4 sz4 ag4 de4 ze4 by4 ty48 sz48 ag48 fo48_0 fo48_1 fo48_2 fo48_3 bu48 ze48 by48
theorem rs57:Tryz.f57.results.toList=[.tmp 2]:=rfl
theorem rs58:Tryz.f58.results.toList=[.tmp 2]:=rfl
attribute [go_sem] rs57 rs58
section
variable (Hh:Hearts K Tryz.prog)
include Hh
theorem Zh6 {gr sz ino jr:Nat} (F:Fine gr sz ino jr) (h:Go.Ev.H):Ze K Tryz.prog 57 [.g (Yn gr sz ino jr)] h (.w (.c (.bool true))) h:=by
 obtain⟨g1,g2,g3,g4,g5,g6,g7,g8,g9,g10,g11⟩:=F
 have gm:(gr:Int) * (sz:Int)=((gr * sz:Nat):Int):=rfl
 obtain⟨v,h',c,rfl,hk⟩:∃ v h',Ze K Tryz.prog 57 [.g (Yn gr sz ino jr)] h v h'∧v=.w (.c (.bool true))∧∀ m,m<h.next→h'.get m=h.get m:=by
  refine Ze.Yi fits Hh (by kernel_rfl) (by kernel_rfl) (by kernel_rfl) (show Tryz.f57.body=some _ from rfl) rfl ?_
  repeat (first|apply Goes.seq|apply Goes.block|apply Goes.loop|apply Goes.skip|apply Goes.exit|apply Goes.ret|((first|apply Goes.Zm|apply Goes.ops2 fits Hh Zc); · simp (maxSteps:=9^6) +decide (disch:=first|omega|(simp only[lens]<;>omega)|decide) only [go_sem,Zb,Za,simprocAttr,Yn,gm,read1]<;>rfl))
  refine⟨_,_,(by simp (maxSteps:=9^6) +decide (disch:=first|omega|(simp only[lens]<;>omega)|decide) only [go_sem,Zb,Za,simprocAttr]<;>rfl),rfl,fun m hm=>?_⟩
  simp (maxSteps:=9^6) +decide (disch:=first|omega|(simp only[lens]<;>omega)|decide) only [go_sem,Zb,Za,simprocAttr]
 exact Ze.quiet c rfl hk
theorem Zr2 {gr sz ino jr:Nat} (F:Fine gr sz ino jr) (h:Go.Ev.H):Ze K Tryz.prog 58 [.g (Yn gr sz ino jr)] h (.w (.c (.int .i64 ((2+jr+gr * sz:Nat):Int)))) h:=by
 have F':=F
 obtain⟨g1,g2,g3,g4,g5,g6,g7,g8,g9,g10,g11⟩:=F'
 have gm:(gr:Int) * (sz:Int)=((gr * sz:Nat):Int):=rfl
 have c1:=Zh6 Hh F (h.new (.row 4 [Yn gr sz ino jr] false))
 obtain⟨v,h',c,rfl,hk⟩:∃ v h',Ze K Tryz.prog 58 [.g (Yn gr sz ino jr)] h v h'∧v=.w (.c (.int .i64 ((2+jr+gr * sz:Nat):Int)))∧∀ m,m<h.next→h'.get m=h.get m:=by
  refine Ze.Yi fits Hh (by kernel_rfl) (by kernel_rfl) (by kernel_rfl) (show Tryz.f58.body=some _ from rfl) rfl ?_
  iterate 4 (first|apply Goes.seq|(apply Goes.ops2 fits Hh Zc; · simp (maxSteps:=9^6) +decide (disch:=first|omega|(simp only[lens]<;>omega)|decide) only [go_sem,Zb,Za,simprocAttr,Yn,gm,read1]<;>rfl))
  iterate 6 (first|apply Goes.seq|apply Goes.skip|apply Goes.ret|((first|apply Goes.Zm|apply Goes.ops2 fits Hh (Zt Zc c1)); · simp (maxSteps:=9^6) +decide (disch:=first|omega|(simp only[lens]<;>omega)|decide) only [go_sem,Zb,Za,simprocAttr,Zy,Yn,gm,read1]<;>rfl))
  refine⟨_,_,(by simp (maxSteps:=9^6) +decide (disch:=first|omega|(simp only[lens]<;>omega)|decide) only [go_sem,Zb,Za,simprocAttr]<;>rfl),rfl,fun m hm=>?_⟩
  simp (maxSteps:=9^6) +decide (disch:=first|omega|(simp only[lens]<;>omega)|decide) only [go_sem,Zb,Za,simprocAttr]
 exact Ze.quiet c rfl hk
end
theorem ty5:K.types.get 5=some ti5:=by kernel_rfl
theorem sz5:ti5.size=1:=by rfl
theorem ag5:ti5.agg=false:=by rfl
theorem de5:ti5.desc=(.int .u8):=by rfl
theorem ze5:ti5.zero=(.c (.int .u8 0)):=by rfl
theorem by5:ti5.bytes=1:=by rfl
theorem ke5 (k:IntKind) (n:Int):Dj K 20 5 (.c (.int k n))=true:=by kernel_rfl
theorem ty240:K.types.get 240=some ti240:=by kernel_rfl
theorem sz240:ti240.size=5:=by rfl
theorem ag240:ti240.agg=true:=by rfl
theorem fo240_0:Zn K 240 0=some (0,ti5):=by kernel_rfl
theorem fo240_1:Zn K 240 1=some (1,ti3):=by kernel_rfl
theorem fo240_2:Zn K 240 2=some (2,ti3):=by kernel_rfl
theorem fo240_3:Zn K 240 3=some (3,ti3):=by kernel_rfl
theorem fo240_4:Zn K 240 4=some (4,ti3):=by kernel_rfl
theorem bu240 (ps:List (Nat × W)):Yc K 240 (some ps)=gW (Z9 K 240 ps ti240.zero.cells):=by kernel_rfl
theorem ze240:ti240.zero=(.g ([.int .u8 0,.int .i64 0,.int .i64 0,.int .i64 0,.int .i64 0])):=by rfl
theorem by240:ti240.bytes=40:=by rfl
theorem ty288:K.types.get 288=some ti288:=by kernel_rfl
theorem sz288:ti288.size=15:=by rfl
theorem ag288:ti288.agg=true:=by rfl
theorem de288:ti288.desc=(.array 3 240):=by rfl
theorem ze288:ti288.zero=(.g ([.int .u8 0,.int .i64 0,.int .i64 0,.int .i64 0,.int .i64 0,.int .u8 0,.int .i64 0,.int .i64 0,.int .i64 0,.int .i64 0,.int .u8 0,.int .i64 0,.int .i64 0,.int .i64 0,.int .i64 0])):=by rfl
theorem by288:ti288.bytes=120:=by rfl
theorem ty289:K.types.get 289=some ti289:=by kernel_rfl
theorem sz289:ti289.size=20:=by rfl
theorem ag289:ti289.agg=true:=by rfl
theorem de289:ti289.desc=(.array 4 240):=by rfl
theorem ze289:ti289.zero=(.g ([.int .u8 0,.int .i64 0,.int .i64 0,.int .i64 0,.int .i64 0,.int .u8 0,.int .i64 0,.int .i64 0,.int .i64 0,.int .i64 0,.int .u8 0,.int .i64 0,.int .i64 0,.int .i64 0,.int .i64 0,.int .u8 0,.int .i64 0,.int .i64 0,.int .i64 0,.int .i64 0])):=by rfl
theorem by289:ti289.bytes=160:=by rfl
attribute [go_sem] ty5 sz5 ag5 de5 ze5 by5 ke5 ty240 sz240 ag240 fo240_0 fo240_1 fo240_2 fo240_3 fo240_4 bu240 ze240 by240 ty288 sz288 ag288 de288 ze288 by288 ty289 sz289 ag289 de289 ze289 by289
noncomputable def q84 (p:List Nat):Code:=piece p (Uq Tryz.f84)
theorem Zsr:q84 [1,1,0,1,2]=.rangeFunc (.tmp 16) #[17] (q84 [1,1,0,1,2,5]) (q84 [1,1,0,1,2,6]):=by kernel_rfl
theorem Zo1:q84 [1,1,0,1,2,5]=.region 4 (Zru (q84 [1,1,0,1,2,5])) false:=by kernel_rfl
theorem Zoe:q84 [1,1,0,1,2,6]=.block 1 (q84 [1,1,0,1,2,6,2]):=by kernel_rfl
noncomputable def q156 (p:List Nat):Code:=piece p (Uq Tryz.f156)
theorem rs84:Tryz.f84.results.toList=[.cell 4 5,.cell 5 3,.cell 6 3]:=rfl
theorem rs117:Tryz.f117.results.toList=[.tmp 2]:=rfl
theorem rs156:Tryz.f156.results.toList=[]:=rfl
attribute [go_sem] rs84 rs117 rs156
def Gq (kk gp fr sz pl:Nat):List C:=[.int .u8 kk,.int .i64 gp,.int .i64 fr,.int .i64 sz,.int .i64 pl]
section
variable (Hh:Hearts K Tryz.prog)
include Hh
theorem Z2y (l:Nat) (ts:Zu) (kk gp fr sz pl:Nat) (h:Go.Ev.H):Goes K Tryz.prog 36 (some l) (q84 [1,1,0,1,2,5]) [] (ts.set 17 (.w (.g (Gq kk gp fr sz pl)))) h fun x ds' ts' h'=>x=.normal∧ds'=[]∧(∀ s,s≤6→Zk ts' s=Zk ts s)∧Zk ts' 7=.w (.c (.ptr h.next 0))∧h'.next=h.next+1∧h'.get h.next=some (.row 5 [Gq kk gp fr sz pl] false)∧∀ m,m≠h.next→h'.get m=h.get m:=by
 (apply Goes.ops2 fits Hh Zc; · simp (maxSteps:=9^6) +decide (disch:=first|omega|(simp only[lens]<;>omega)|decide) only [go_sem,Zb,Za,simprocAttr,Gq]<;>rfl)
 refine⟨rfl,rfl,fun s hs=>?_,?_,rfl,?_,fun m hm=>?_⟩
 ·simp (decide:=true) only [Yo hs]
 ·simp (maxSteps:=9^6) +decide (disch:=first|omega|(simp only[lens]<;>omega)|decide) only [go_sem,Zb,Za,simprocAttr]
 ·simp (maxSteps:=9^6) +decide (disch:=first|omega|(simp only[lens]<;>omega)|decide) only [go_sem,Zb,Za,simprocAttr,Gq]
 ·simp (maxSteps:=9^6) +decide (disch:=first|omega|(simp only[lens]<;>omega)|decide) only [go_sem,Zb,Za,simprocAttr]
set_option maxHeartbeats 4000000 in
theorem Z2g (l:Nat) (ts:Zu) (pb p4 p5 p6 q kk gp fr sz pl b:Nat) (h:Go.Ev.H) (x4 x5 x6:C) (s1:kk<256) (s2:gp<1000000) (s3:fr<1000000) (s4:sz<1000000) (s5:pl<1000000) (s6:b<9223372036854775808) (s7:fr≤b)
  (d1:p4≠p5) (d2:p4≠p6) (d3:p5≠p6) (d4:pb≠p4) (d5:pb≠p5) (d6:pb≠p6) (d7:q≠p4) (d8:q≠p5) (d9:q≠p6)
  (e3:Zk ts 3=.w (.c (.ptr pb 0))) (e4:Zk ts 4=.w (.c (.ptr p4 0))) (e5:Zk ts 5=.w (.c (.ptr p5 0))) (e6:Zk ts 6=.w (.c (.ptr p6 0))) (e7:Zk ts 7=.w (.c (.ptr q 0)))
  (hb:h.get pb=some (.row 1 [[.int .i64 b]] false)) (hq:h.get q=some (.row 5 [Gq kk gp fr sz pl] false)) (r4:h.get p4=some (.row 1 [[x4]] false)) (r5:h.get p5=some (.row 1 [[x5]] false)) (r6:h.get p6=some (.row 1 [[x6]] false)) :
  Goes K Tryz.prog 36 (some l) (q84 [1,1,0,1,2,6]) [] ts h fun x _ _ h'=>h'.next=h.next∧(b<fr+sz→x=.ret∧h'.get p4=some (.row 1 [[.int .u8 kk]] false)∧h'.get p5=some (.row 1 [[.int .i64 gp]] false)∧h'.get p6=some (.row 1 [[.int .i64 ((pl+b - fr:Nat):Int)]] false))∧(fr+sz≤b→x=.normal∧h'=h)∧∀ m,m≠p4→m≠p5→m≠p6→h'.get m=h.get m:=by
 have w9:((pl:Int)+(b:Int)) - (fr:Int)=((pl+b - fr:Nat):Int):=by omega
 by_cases hlt:b<fr+sz
 ·
  iterate 7 (first|apply Goes.seq|apply Goes.block|apply Goes.ret|((first|apply Goes.Zm|apply Goes.ops2 fits Hh Zc); · simp (maxSteps:=9^6) +decide (disch:=first|omega|(simp only[lens]<;>omega)|decide) only [go_sem,Zb,Za,simprocAttr,e3,e4,e5,e6,e7,hb,hq,r4,r5,r6,Gq,read1,w9,Z4]<;>rfl)|(apply Goes.drawn2 fits Hh Zc (by kernel_rfl); · simp (maxSteps:=9^6) +decide (disch:=first|omega|(simp only[lens]<;>omega)|decide) only [go_sem,Zb,Za,simprocAttr,drG,e3,e4,e5,e6,e7,hb,hq,r4,r5,r6,Gq,read1,w9,Z4]<;>rfl))
  refine⟨rfl,fun _=>⟨rfl,?_,?_,?_⟩,fun h9=>by omega,fun m h1 h2 h3=>?_⟩
  ·simp (maxSteps:=9^6) +decide (disch:=first|omega|(simp only[lens]<;>omega)|decide) only [go_sem,Zb,Za,simprocAttr]
  ·simp (maxSteps:=9^6) +decide (disch:=first|omega|(simp only[lens]<;>omega)|decide) only [go_sem,Zb,Za,simprocAttr]
  ·simp (maxSteps:=9^6) +decide (disch:=first|omega|(simp only[lens]<;>omega)|decide) only [go_sem,Zb,Za,simprocAttr]
  ·simp (maxSteps:=9^6) +decide (disch:=first|omega|(simp only[lens]<;>omega)|decide) only [go_sem,Zb,Za,simprocAttr]
 ·
  iterate 5 (first|apply Goes.seq|apply Goes.skip|apply Goes.block|((first|apply Goes.Zm|apply Goes.ops2 fits Hh Zc); · simp (maxSteps:=9^6) +decide (disch:=first|omega|(simp only[lens]<;>omega)|decide) only [go_sem,Zb,Za,simprocAttr,e3,e4,e5,e6,e7,hb,hq,r4,r5,r6,Gq,read1]<;>rfl))
  exact⟨rfl,fun h9=>by omega,fun _=>⟨rfl,rfl⟩,fun _ _ _ _=>rfl⟩
theorem Zq9 (l:Nat) (ts:Zu) (pb p4 p5 p6 kk gp fr sz pl b d:Nat) (h:Go.Ev.H) (x4 x5 x6:C) (s1:kk<256) (s2:gp<1000000) (s3:fr<1000000) (s4:sz<1000000) (s5:pl<1000000) (s6:b<9223372036854775808) (s7:fr≤b)
  (d1:p4≠p5) (d2:p4≠p6) (d3:p5≠p6) (d4:pb≠p4) (d5:pb≠p5) (d6:pb≠p6) (l4:l≠p4) (l5:l≠p5) (l6:l≠p6) (lb:l≠pb) (b4:p4<h.next) (b5:p5<h.next) (b6:p6<h.next) (bb:pb<h.next) (bl:l<h.next)
  (e3:Zk ts 3=.w (.c (.ptr pb 0))) (e4:Zk ts 4=.w (.c (.ptr p4 0))) (e5:Zk ts 5=.w (.c (.ptr p5 0))) (e6:Zk ts 6=.w (.c (.ptr p6 0)))
  (hl:h.get l=some (.loop ts 36 [17] (q84 [1,1,0,1,2,5]) (q84 [1,1,0,1,2,6]) .ready none d))
  (hb:h.get pb=some (.row 1 [[.int .i64 b]] false)) (r4:h.get p4=some (.row 1 [[x4]] false)) (r5:h.get p5=some (.row 1 [[x5]] false)) (r6:h.get p6=some (.row 1 [[x6]] false)) :
  ∃ E h' r,Sound K Tryz.prog E∧Oq E l (some [.g (Gq kk gp fr sz pl)]) h (h.get l)=some (.val (.w (.c (.bool r))) h')∧h.next≤h'.next ∧
   (fr+sz≤b→r=true∧∀ m,m<h.next→h'.get m=h.get m) ∧
   (b<fr+sz→r=false∧h'.get l=some (.loop ts 36 [17] (q84 [1,1,0,1,2,5]) (q84 [1,1,0,1,2,6]) .done (some .ret) d)∧h'.get p4=some (.row 1 [[.int .u8 kk]] false)∧h'.get p5=some (.row 1 [[.int .i64 gp]] false)∧h'.get p6=some (.row 1 [[.int .i64 ((pl+b - fr:Nat):Int)]] false)∧∀ m,m<h.next→m≠l→m≠p4→m≠p5→m≠p6→h'.get m=h.get m):=by
 obtain⟨xa,ds1,ts1,h1,kA,rfl,rfl,t1,t7,n1,g1,f1⟩:=Z2y Hh l ts kk gp fr sz pl h
 have q1:∀ m,m<h.next→m≠l→(h1.put l (.loop ts 36 [17] (q84 [1,1,0,1,2,5]) (q84 [1,1,0,1,2,6]) .busy none d)).get m=h.get m:=fun m hm hml=>by rw[Zp hml,f1 m (by omega)]
 have gl:h1.get l=some (.loop ts 36 [17] (q84 [1,1,0,1,2,5]) (q84 [1,1,0,1,2,6]) .ready none d):=by rw[f1 l (by omega)]; exact hl
 obtain⟨xb,ds2,ts2,h2,kB,n2,st,go,f2⟩:=Z2g Hh l ts1 pb p4 p5 p6 h.next kk gp fr sz pl b (h1.put l (.loop ts 36 [17] (q84 [1,1,0,1,2,5]) (q84 [1,1,0,1,2,6]) .busy none d)) x4 x5 x6 s1 s2 s3 s4 s5 s6 s7 d1 d2 d3 d4 d5 d6 (by omega) (by omega) (by omega)
  ((t1 3 (by decide)).trans e3) ((t1 4 (by decide)).trans e4) ((t1 5 (by decide)).trans e5) ((t1 6 (by decide)).trans e6) t7 ((q1 pb bb (Ne.symm lb)).trans hb) (by rw[Zp (by omega)]; exact g1) ((q1 p4 b4 (Ne.symm l4)).trans r4) ((q1 p5 b5 (Ne.symm l5)).trans r5) ((q1 p6 b6 (Ne.symm l6)).trans r6)
 have hl2:h2.get l=some (.loop ts 36 [17] (q84 [1,1,0,1,2,5]) (q84 [1,1,0,1,2,6]) .busy none d):=by rw[f2 l l4 l5 l6]; exact Z8 ..
 have S:=Di (Di Zc kB) kA
 refine⟨_,_,_,S,Lt hl (by simp only[Um]; rfl) (Fq ..) gl (Q4 (fun e=>?_) |>.trans (Fq ..)) hl2,?_,fun h9=>?_,fun h9=>?_⟩
 ·have e1:=(Task.code.inj e).1
  rw[Zoe,Zo1] at e1
  cases e1
 ·rw[H.Zj,n2,H.Zj,n1]; omega
 ·obtain⟨rfl,rfl⟩:=go h9
  refine⟨rfl,fun m hm=>?_⟩
  by_cases e:m=l
  ·subst e; rw[Z8,hl]; rfl
  ·rw[Zp e,q1 m hm e]
 ·obtain⟨rfl,k4,k5,k6⟩:=st h9
  refine⟨rfl,Z8 ..,?_,?_,?_,fun m hm a1 a2 a3 a4=>?_⟩
  ·rw[Zp (Ne.symm l4)]; exact k4
  ·rw[Zp (Ne.symm l5)]; exact k5
  ·rw[Zp (Ne.symm l6)]; exact k6
  ·rw[Zp a1,f2 m a2 a3 a4,q1 m hm a1]
structure WCtx (l pb p4 p5 p6 pg gr sz ino jr b d:Nat) (ts:Zu) (h:Go.Ev.H):Prop where
 d1:p4≠p5
 d2:p4≠p6
 d3:p5≠p6
 d4:pb≠p4
 d5:pb≠p5
 d6:pb≠p6
 l4:l≠p4
 l5:l≠p5
 l6:l≠p6
 lb:l≠pb
 b4:p4<h.next
 b5:p5<h.next
 b6:p6<h.next
 bb:pb<h.next
 bl:l<h.next
 bg:pg<h.next
 e3:Zk ts 3=.w (.c (.ptr pb 0))
 e4:Zk ts 4=.w (.c (.ptr p4 0))
 e5:Zk ts 5=.w (.c (.ptr p5 0))
 e6:Zk ts 6=.w (.c (.ptr p6 0))
 hl:h.get l=some (.loop ts 36 [17] (q84 [1,1,0,1,2,5]) (q84 [1,1,0,1,2,6]) .ready none d)
 hb:h.get pb=some (.row 1 [[.int .i64 b]] false)
 r4:∃ x,h.get p4=some (.row 1 [[x]] false)
 r5:∃ x,h.get p5=some (.row 1 [[x]] false)
 r6:∃ x,h.get p6=some (.row 1 [[x]] false)
 hg:h.get pg=some (.row 4 [Yn gr sz ino jr] false)
omit Hh in
theorem WCtx.move {l pb p4 p5 p6 pg gr sz ino jr b d:Nat} {ts:Zu} {h h':Go.Ev.H} (W:WCtx l pb p4 p5 p6 pg gr sz ino jr b d ts h) (hn:h.next≤h'.next) (k:∀ m,m<h.next→h'.get m=h.get m):WCtx l pb p4 p5 p6 pg gr sz ino jr b d ts h':=by
 obtain⟨d1,d2,d3,d4,d5,d6,l4,l5,l6,lb,b4,b5,b6,bb,bl,bg,e3,e4,e5,e6,hl,hb,r4,r5,r6,hg⟩:=W
 exact⟨d1,d2,d3,d4,d5,d6,l4,l5,l6,lb,by omega,by omega,by omega,by omega,by omega,by omega,e3,e4,e5,e6,(k l bl).trans hl,(k pb bb).trans hb,by rw[k p4 b4]; exact r4,by rw[k p5 b5]; exact r5,by rw[k p6 b6]; exact r6,(k pg bg).trans hg⟩
structure WAns (l p4 p5 p6 d:Nat) (ts:Zu) (kk gp pl:Nat) (h0 h:Go.Ev.H):Prop where
 next:h0.next≤h.next
 hl:h.get l=some (.loop ts 36 [17] (q84 [1,1,0,1,2,5]) (q84 [1,1,0,1,2,6]) .done (some .ret) d)
 r4:h.get p4=some (.row 1 [[.int .u8 kk]] false)
 r5:h.get p5=some (.row 1 [[.int .i64 gp]] false)
 r6:h.get p6=some (.row 1 [[.int .i64 pl]] false)
 keep:∀ m,m<h0.next→m≠l→m≠p4→m≠p5→m≠p6→h.get m=h0.get m
omit Hh in
theorem WAns.back {l p4 p5 p6 d:Nat} {ts:Zu} {kk gp pl:Nat} {h0 h1 h:Go.Ev.H} (A:WAns l p4 p5 p6 d ts kk gp pl h1 h) (hn:h0.next≤h1.next) (k:∀ m,m<h0.next→h1.get m=h0.get m):WAns l p4 p5 p6 d ts kk gp pl h0 h :=
 ⟨Nat.le_trans hn A.next,A.hl,A.r4,A.r5,A.r6,fun m hm a b c e=>(A.keep m (Nat.lt_of_lt_of_le hm hn) a b c e).trans (k m hm)⟩
theorem WCtx.round {l pb p4 p5 p6 pg gr sz ino jr b d:Nat} {ts:Zu} {h:Go.Ev.H} (W:WCtx l pb p4 p5 p6 pg gr sz ino jr b d ts h) (kk gp fr sz' pl:Nat) (s1:kk<256) (s2:gp<1000000) (s3:fr<1000000) (s4:sz'<1000000) (s5:pl<1000000) (s6:b<9223372036854775808) (s7:fr≤b) :
  ∃ E h' r,Sound K Tryz.prog E∧Oq E l (some [.g (Gq kk gp fr sz' pl)]) h (some (.loop ts 36 [17] (q84 [1,1,0,1,2,5]) (q84 [1,1,0,1,2,6]) .ready none d))=some (.val (.w (.c (.bool r))) h') ∧
   (fr+sz'≤b→r=true∧h.next≤h'.next∧∀ m,m<h.next→h'.get m=h.get m)∧(b<fr+sz'→r=false∧WAns l p4 p5 p6 d ts kk gp (pl+b - fr) h h'):=by
 obtain⟨d1,d2,d3,d4,d5,d6,l4,l5,l6,lb,b4,b5,b6,bb,bl,bg,e3,e4,e5,e6,hl,hb,⟨x4,r4⟩,⟨x5,r5⟩,⟨x6,r6⟩,hg⟩:=W
 obtain⟨E,h',r,S,rnd,n,go,st⟩:=Zq9 Hh l ts pb p4 p5 p6 kk gp fr sz' pl b d h x4 x5 x6 s1 s2 s3 s4 s5 s6 s7 d1 d2 d3 d4 d5 d6 l4 l5 l6 lb b4 b5 b6 bb bl e3 e4 e5 e6 hl hb r4 r5 r6
 rw[hl] at rnd
 refine⟨E,h',r,S,rnd,fun h9=>⟨(go h9).1,n,(go h9).2⟩,fun h9=>?_⟩
 obtain⟨rr,k1,k2,k3,k4,k5⟩:=st h9
 exact⟨rr,n,k1,k2,k3,k4,k5⟩
def Zk3 (jr:Nat):Nat→Nat × Nat × Nat × Nat × Nat
 | 0=>(1,0,0,1,0)
 | 1=>(2,0,1,1,0)
 | _=>(3,0,2,jr,0)
def Zz6 (jr:Nat):List C:=[.int .u8 1,.int .i64 0,.int .i64 0,.int .i64 1,.int .i64 0,.int .u8 2,.int .i64 0,.int .i64 1,.int .i64 1,.int .i64 0,.int .u8 3,.int .i64 0,.int .i64 2,.int .i64 jr,.int .i64 0]
def Zp3 (p:Nat × Nat × Nat × Nat × Nat):List C:=Gq p.1 p.2.1 p.2.2.1 p.2.2.2.1 p.2.2.2.2
def Xt (jr:Nat):Nat→Nat
 | 0=>0
 | 1=>1
 | 2=>2
 | _=>2+jr
theorem Zsv {l pb p4 p5 p6 pg gr sz ino jr b d:Nat} {tl:Zu} (F:Fine gr sz ino jr) (s6:b<9223372036854775808):∀ (k i:Nat) (ts:Zu) (h:Go.Ev.H),i+k=3→Xt jr i≤b→WCtx l pb p4 p5 p6 pg gr sz ino jr b d tl h→Zk ts 0=.w (.c (.yield l))→Zk ts 21=.w (.g (Zz6 jr))→Zk ts 22=.w (.c (.int .i64 i)) →
  Goes K Tryz.prog 79 none (q156 [1,1,0,1,2]) [] ts h fun x ds' ts' h'=>ds'=[]∧(∀ s,s≤3→Zk ts' s=Zk ts s)∧((x=.exit 0∧2+jr≤b∧h.next≤h'.next∧∀ m,m<h.next→h'.get m=h.get m) ∨
   (x=.ret∧∃ q,q<3∧Xt jr q≤b∧b<Xt jr (q+1)∧WAns l p4 p5 p6 d tl (Zk3 jr q).1 0 (b - Xt jr q) h h')):=by
 obtain⟨g1,g2,g3,g4,g5,g6,g7,g8,g9,g10,g11⟩:=F
 intro k
 induction k with
 | zero =>
  intro i ts h hi hbe W e0 e21 e22
  obtain rfl:i=3:=by omega
  iterate 6 (first|apply Goes.seq|apply Goes.exit|apply Goes.loop|((first|apply Goes.Zm|apply Goes.ops2 fits Hh Zc); · simp (maxSteps:=9^6) +decide (disch:=first|omega|(simp only[lens]<;>omega)|decide) only [go_sem,Zb,Za,simprocAttr,e22]<;>rfl))
  refine⟨rfl,fun s hs=>?_,.inl ⟨rfl,hbe,Nat.le_refl _,fun _ _=>rfl⟩⟩
  simp (decide:=true) only [Yo hs]
 | succ k ih =>
  intro i ts h hi hbe W e0 e21 e22
  obtain⟨kk,gp,fr,sz',pl,hP⟩:∃ kk gp fr sz' pl,Zk3 jr i=(kk,gp,fr,sz',pl):=⟨_,_,_,_,_,rfl⟩
  have hi3:i=0∨i=1∨i=2:=by omega
  have hx:Zpa K (some ti288) (Zz6 jr) (some i)=some (.g (Gq kk gp fr sz' pl))∧kk<256∧gp=0∧fr=Xt jr i∧fr+sz'=Xt jr (i+1)∧pl=0∧fr<1000000∧sz'<1000000:=by
   rcases hi3 with rfl|rfl|rfl<;>(simp only[Zk3,Prod.mk.injEq] at hP; obtain⟨rfl,rfl,rfl,rfl,rfl⟩:=hP; exact⟨by kernel_rfl,by omega,rfl,rfl,rfl,rfl,by omega,by omega⟩)
  obtain⟨idx,k1,rfl,k3,k4,rfl,k6,k7⟩:=hx
  have W2:=W.move (h':=(h.new (.row 5 [[.int .u8 0,.int .i64 0,.int .i64 0,.int .i64 0,.int .i64 0]] false)).put h.next (.row 5 [Gq kk 0 fr sz' 0] false)) (by rw[H.Zj,H.Zg]; omega) (fun m hm=>by rw[Zp (by omega),Yg (by omega)])
  obtain⟨E,h2,r,S,rnd,go,st⟩:=WCtx.round Hh W2 kk 0 fr sz' 0 k1 (by omega) k6 k7 (by omega) s6 (by omega)
  have hl:=W.hl
  have bl:=W.bl
  have rp:Zb 5 [Gq kk 0 fr sz' 0] 0 5=some (Gq kk 0 fr sz' 0):=rfl
  have lp:(Gq kk 0 fr sz' 0).length=5:=rfl
  have wp:Z4 5 [[.int .u8 0,.int .i64 0,.int .i64 0,.int .i64 0,.int .i64 0]] 0 (Gq kk 0 fr sz' 0)=some [Gq kk 0 fr sz' 0]:=rfl
  by_cases hc:fr+sz'≤b
  ·obtain⟨rfl,n2,q2⟩:=go hc
   have q3:∀ m,m<h.next→h2.get m=h.get m:=fun m hm=>by
    rw[q2 m (by rw[H.Zj,H.Zg]; omega),Zp (by omega),Yg (by omega)]
   rw[H.Zj,H.Zg] at n2
   iterate 11 (first|apply Goes.seq|apply Goes.skip|apply Goes.block|apply Goes.loop|((first|apply Goes.Zm|apply Goes.ops2 fits Hh Zc); · simp (maxSteps:=9^6) +decide (disch:=first|omega|(simp only[lens]<;>omega)|decide) only [go_sem,Za,simprocAttr,e0,e21,e22,hl,idx,rp,lp,wp,rnd,Gi]<;>rfl))
   iterate 4 (first|apply Goes.skip|((first|apply Goes.Zm|apply Goes.ops2 fits Hh S); · simp (maxSteps:=9^6) +decide (disch:=first|omega|(simp only[lens]<;>omega)|decide) only [go_sem,Za,simprocAttr,e0,e21,e22,hl,idx,rp,lp,wp,rnd,Gi]<;>rfl))
   show Goes K Tryz.prog 79 none (q156 [1,1,0,1,2]) _ _ _ _
   refine (ih (i+1) _ h2 (by omega) (by omega) (W.move (by omega) q3) ?_ ?_ ?_).mono ?_
   ·simp (decide:=true) only [Zd,reduceIte,e0]
   ·simp (decide:=true) only [Zd,reduceIte,e21]
   ·simp (decide:=true) only [Zd,reduceIte]<;>rfl
   ·rintro x ds' ts' h' ⟨z1,z2,z3⟩
    refine⟨z1,fun s hs=>(z2 s hs).trans (by simp (decide:=true) only [Yo hs]),?_⟩
    rcases z3 with ⟨rfl,y1,y2,y3⟩|⟨rfl,q,y1,y2,y3,y4⟩
    ·exact .inl ⟨rfl,y1,by omega,fun m hm=>(y3 m (by omega)).trans (q3 m hm)⟩
    ·exact .inr ⟨rfl,q,y1,y2,y3,y4.back (by omega) q3⟩
  ·obtain⟨rfl,A⟩:=st (by omega)
   have A2:=A.back (h0:=h) (by rw[H.Zj,H.Zg]; omega) (fun m hm=>by rw[Zp (by omega),Yg (by omega)])
   iterate 11 (first|apply Goes.seq|apply Goes.skip|apply Goes.block|apply Goes.loop|((first|apply Goes.Zm|apply Goes.ops2 fits Hh Zc); · simp (maxSteps:=9^6) +decide (disch:=first|omega|(simp only[lens]<;>omega)|decide) only [go_sem,Za,simprocAttr,e0,e21,e22,hl,idx,rp,lp,wp,rnd,Gi]<;>rfl))
   iterate 3 (first|apply Goes.ret|((first|apply Goes.Zm|apply Goes.ops2 fits Hh S); · simp (maxSteps:=9^6) +decide (disch:=first|omega|(simp only[lens]<;>omega)|decide) only [go_sem,Za,simprocAttr,e0,e21,e22,hl,idx,rp,lp,wp,rnd,Gi]<;>rfl))
   refine⟨rfl,fun s hs=>?_,.inr ⟨rfl,i,by omega,by omega,by omega,?_⟩⟩
   ·simp (decide:=true) only [Yo hs]
   ·rw[hP,←k3]
    rwa [Nat.zero_add] at A2
def Sr (sz ino jr k:Nat):Nat→Nat
 | 0=>2+jr+k * sz
 | 1=>2+jr+k * sz+1
 | 2=>2+jr+k * sz+2
 | 3=>2+jr+k * sz+2+ino / 4
 | _=>2+jr+k * sz+sz
def Zf6 (sz ino jr k:Nat):Nat→Nat × Nat × Nat × Nat × Nat
 | 0=>(4,k,2+jr+k * sz,1,0)
 | 1=>(5,k,2+jr+k * sz+1,1,1)
 | 2=>(6,k,2+jr+k * sz+2,ino / 4,2)
 | _=>(7,k,2+jr+k * sz+2+ino / 4,sz - 2 - ino / 4,2+ino / 4)
def Z2k (sz ino jr k:Nat):List C:=Zp3 (Zf6 sz ino jr k 0)++Zp3 (Zf6 sz ino jr k 1)++Zp3 (Zf6 sz ino jr k 2)++Zp3 (Zf6 sz ino jr k 3)
theorem Zyr {l pb p4 p5 p6 pg gr sz ino jr b d:Nat} {tl:Zu} (F:Fine gr sz ino jr) (s6:b<9223372036854775808) {k0:Nat} (hk0:k0<gr):∀ (k i:Nat) (ts:Zu) (h:Go.Ev.H),i+k=4→Sr sz ino jr k0 i≤b→WCtx l pb p4 p5 p6 pg gr sz ino jr b d tl h→Zk ts 0=.w (.c (.yield l))→Zk ts 69=.w (.g (Z2k sz ino jr k0))→Zk ts 70=.w (.c (.int .i64 i)) →
  Goes K Tryz.prog 79 none (q156 [1,1,1,1,2,2,1,1,0,2,1,1,1,1,2]) [] ts h fun x ds' ts' h'=>ds'=[]∧(∀ s,s≤8∨s=31∨s=32→Zk ts' s=Zk ts s)∧((x=.exit 4∧2+jr+k0 * sz+sz≤b∧h.next≤h'.next∧∀ m,m<h.next→h'.get m=h.get m) ∨
   (x=.ret∧∃ q,q<4∧Sr sz ino jr k0 q≤b∧b<Sr sz ino jr k0 (q+1)∧WAns l p4 p5 p6 d tl (Zf6 sz ino jr k0 q).1 k0 (b - Sr sz ino jr k0 0) h h')):=by
 obtain⟨g1,g2,g3,g4,g5,g6,g7,g8,g9,g10,g11⟩:=F
 intro k
 induction k with
 | zero =>
  intro i ts h hi hbe W e0 e69 e70
  obtain rfl:i=4:=by omega
  iterate 6 (first|apply Goes.seq|apply Goes.exit|apply Goes.loop|((first|apply Goes.Zm|apply Goes.ops2 fits Hh Zc); · simp (maxSteps:=9^6) +decide (disch:=first|omega|(simp only[lens]<;>omega)|decide) only [go_sem,Zb,Za,simprocAttr,e70]<;>rfl))
  refine⟨rfl,fun s hs=>?_,.inl ⟨rfl,hbe,Nat.le_refl _,fun _ _=>rfl⟩⟩
  rcases hs with hs|rfl|rfl<;>first|(simp (decide:=true) only [Yo hs])|(simp (decide:=true) only [Zd,reduceIte])
 | succ k ih =>
  intro i ts h hi hbe W e0 e69 e70
  obtain⟨kk,gp,fr,sz',pl,hP⟩:∃ kk gp fr sz' pl,Zf6 sz ino jr k0 i=(kk,gp,fr,sz',pl):=⟨_,_,_,_,_,rfl⟩
  have m1:k0 * sz+sz≤gr * sz:=by
   have:=Nat.mul_le_mul_right sz (show k0+1≤gr by omega)
   rw[Nat.add_mul] at this
   omega
  have hi3:i=0∨i=1∨i=2∨i=3:=by omega
  have hx:Zpa K (some ti289) (Z2k sz ino jr k0) (some i)=some (.g (Gq kk gp fr sz' pl))∧kk<256∧k0=gp∧fr=Sr sz ino jr k0 i∧fr+sz'=Sr sz ino jr k0 (i+1)∧pl+Sr sz ino jr k0 0=fr∧fr<1000000∧sz'<1000000:=by
   rcases hi3 with rfl|rfl|rfl|rfl<;>(simp only[Zf6,Prod.mk.injEq] at hP; obtain⟨rfl,rfl,rfl,rfl,rfl⟩:=hP; refine⟨by kernel_rfl,by omega,rfl,rfl,?_,?_,?_,?_⟩<;>first|rfl|(simp only[Sr,Nat.reduceAdd,Nat.zero_add]<;>omega)|omega)
  obtain⟨idx,k1,rfl,k3,k4,k5,k6,k7⟩:=hx
  have W2:=W.move (h':=(h.new (.row 5 [[.int .u8 0,.int .i64 0,.int .i64 0,.int .i64 0,.int .i64 0]] false)).put h.next (.row 5 [Gq kk k0 fr sz' pl] false)) (by rw[H.Zj,H.Zg]; omega) (fun m hm=>by rw[Zp (by omega),Yg (by omega)])
  obtain⟨E,h2,r,S,rnd,go,st⟩:=WCtx.round Hh W2 kk k0 fr sz' pl k1 (by omega) k6 k7 (by omega) s6 (by omega)
  have hl:=W.hl
  have bl:=W.bl
  have rp:Zb 5 [Gq kk k0 fr sz' pl] 0 5=some (Gq kk k0 fr sz' pl):=rfl
  have lp:(Gq kk k0 fr sz' pl).length=5:=rfl
  have wp:Z4 5 [[.int .u8 0,.int .i64 0,.int .i64 0,.int .i64 0,.int .i64 0]] 0 (Gq kk k0 fr sz' pl)=some [Gq kk k0 fr sz' pl]:=rfl
  by_cases hc:fr+sz'≤b
  ·obtain⟨rfl,n2,q2⟩:=go hc
   have q3:∀ m,m<h.next→h2.get m=h.get m:=fun m hm=>by
    rw[q2 m (by rw[H.Zj,H.Zg]; omega),Zp (by omega),Yg (by omega)]
   rw[H.Zj,H.Zg] at n2
   iterate 11 (first|apply Goes.seq|apply Goes.skip|apply Goes.block|apply Goes.loop|((first|apply Goes.Zm|apply Goes.ops2 fits Hh Zc); · simp (maxSteps:=9^6) +decide (disch:=first|omega|(simp only[lens]<;>omega)|decide) only [go_sem,Za,simprocAttr,e0,e69,e70,hl,idx,rp,lp,wp,rnd,Gi]<;>rfl))
   iterate 4 (first|apply Goes.skip|((first|apply Goes.Zm|apply Goes.ops2 fits Hh S); · simp (maxSteps:=9^6) +decide (disch:=first|omega|(simp only[lens]<;>omega)|decide) only [go_sem,Za,simprocAttr,e0,e69,e70,hl,idx,rp,lp,wp,rnd,Gi]<;>rfl))
   show Goes K Tryz.prog 79 none (q156 [1,1,1,1,2,2,1,1,0,2,1,1,1,1,2]) _ _ _ _
   refine (ih (i+1) _ h2 (by omega) (by omega) (W.move (by omega) q3) ?_ ?_ ?_).mono ?_
   ·simp (decide:=true) only [Zd,reduceIte,e0]
   ·simp (decide:=true) only [Zd,reduceIte,e69]
   ·simp (decide:=true) only [Zd,reduceIte]<;>rfl
   ·rintro x ds' ts' h' ⟨z1,z2,z3⟩
    refine⟨z1,fun s hs=>(z2 s hs).trans (by rcases hs with hs|rfl|rfl<;>first|(simp (decide:=true) only [Yo hs])|(simp (decide:=true) only [Zd,reduceIte])),?_⟩
    rcases z3 with ⟨rfl,y1,y2,y3⟩|⟨rfl,q,y1,y2,y3,y4⟩
    ·exact .inl ⟨rfl,y1,by omega,fun m hm=>(y3 m (by omega)).trans (q3 m hm)⟩
    ·exact .inr ⟨rfl,q,y1,y2,y3,y4.back (by omega) q3⟩
  ·obtain⟨rfl,A⟩:=st (by omega)
   have A2:=A.back (h0:=h) (by rw[H.Zj,H.Zg]; omega) (fun m hm=>by rw[Zp (by omega),Yg (by omega)])
   iterate 11 (first|apply Goes.seq|apply Goes.skip|apply Goes.block|apply Goes.loop|((first|apply Goes.Zm|apply Goes.ops2 fits Hh Zc); · simp (maxSteps:=9^6) +decide (disch:=first|omega|(simp only[lens]<;>omega)|decide) only [go_sem,Za,simprocAttr,e0,e69,e70,hl,idx,rp,lp,wp,rnd,Gi]<;>rfl))
   iterate 3 (first|apply Goes.ret|((first|apply Goes.Zm|apply Goes.ops2 fits Hh S); · simp (maxSteps:=9^6) +decide (disch:=first|omega|(simp only[lens]<;>omega)|decide) only [go_sem,Za,simprocAttr,e0,e69,e70,hl,idx,rp,lp,wp,rnd,Gi]<;>rfl))
   refine⟨rfl,fun s hs=>?_,.inr ⟨rfl,i,by omega,by omega,by omega,?_⟩⟩
   ·rcases hs with hs|rfl|rfl<;>first|(simp (decide:=true) only [Yo hs])|(simp (decide:=true) only [Zd,reduceIte])
   ·rw[hP]
    rwa [show pl+b - fr=b - Sr sz ino jr k0 0 by omega] at A2
end
theorem Z38 (a1 a2 a3 a4 a5 b1 b2 b3 b4 b5 c1 c2 c3 c4 c5:C):Yc K 288 (some [(0,.g [a1,a2,a3,a4,a5]),(1,.g [b1,b2,b3,b4,b5]),(2,.g [c1,c2,c3,c4,c5])])=some (.g [a1,a2,a3,a4,a5,b1,b2,b3,b4,b5,c1,c2,c3,c4,c5]):=by kernel_rfl
theorem Z33 (a1 a2 a3 a4 a5 b1 b2 b3 b4 b5 c1 c2 c3 c4 c5 d1 d2 d3 d4 d5:C):Yc K 289 (some [(0,.g [a1,a2,a3,a4,a5]),(1,.g [b1,b2,b3,b4,b5]),(2,.g [c1,c2,c3,c4,c5]),(3,.g [d1,d2,d3,d4,d5])])=some (.g [a1,a2,a3,a4,a5,b1,b2,b3,b4,b5,c1,c2,c3,c4,c5,d1,d2,d3,d4,d5]):=by kernel_rfl
theorem wrP {x y:List C} {n:Nat} (hx:x.length=n) (hy:y.length=n) (h:0<n):Z4 n [x] 0 y=some [y]:=by
 subst hy
 exact Rk h hx
theorem rdP {x:List C} {n:Nat} (hx:x.length=n) (h:0<n):Zb n [x] 0 n=some x:=by
 subst hx
 exact Tt h
section
variable (Hh:Hearts K Tryz.prog)
include Hh
set_option maxHeartbeats 4000000 in
theorem Zvw {l pb p4 p5 p6 pg gr sz ino jr b d:Nat} {tl:Zu} (F:Fine gr sz ino jr) (s6:b<9223372036854775808):∀ (m k:Nat) (ts:Zu) (h:Go.Ev.H),k+m=gr→2+jr+k * sz≤b→WCtx l pb p4 p5 p6 pg gr sz ino jr b d tl h→Zk ts 0=.w (.c (.yield l))→Zk ts 1=.w (.c (.ptr pg 0))→Zk ts 3=.w (.c (.int .i64 ((ino / 4:Nat):Int)))→Zk ts 31=.w (.c (.int .i64 gr))→Zk ts 32=.w (.c (.int .i64 k)) →
  Goes K Tryz.prog 79 none (q156 [1,1,1,1,2]) [] ts h fun x ds' ts' h'=>ds'=[]∧((x=.exit 2∧2+jr+gr * sz≤b∧h.next≤h'.next∧∀ m,m<h.next→h'.get m=h.get m) ∨
   (x=.ret∧∃ k0 q,k0<gr∧q<4∧Sr sz ino jr k0 q≤b∧b<Sr sz ino jr k0 (q+1)∧WAns l p4 p5 p6 d tl (Zf6 sz ino jr k0 q).1 k0 (b - Sr sz ino jr k0 0) h h')):=by
 have F':=F
 obtain⟨g1,g2,g3,g4,g5,g6,g7,g8,g9,g10,g11⟩:=F'
 intro m
 induction m with
 | zero =>
  intro k ts h hk hb W e0 e1 e3 e31 e32
  obtain rfl:k=gr:=by omega
  iterate 6 (first|apply Goes.seq|apply Goes.exit|apply Goes.loop|((first|apply Goes.Zm|apply Goes.ops2 fits Hh Zc); · simp (maxSteps:=9^6) +decide (disch:=first|omega|(simp only[lens]<;>omega)|decide) only [go_sem,Zb,Za,simprocAttr,e31,e32]<;>rfl))
  exact⟨rfl,.inl ⟨rfl,hb,Nat.le_refl _,fun _ _=>rfl⟩⟩
 | succ m ih =>
  intro k ts h hk hb W e0 e1 e3 e31 e32
  have hk0:k<gr:=by omega
  have gm:(k:Int) * (sz:Int)=((k * sz:Nat):Int):=rfl
  have b1:k * sz≤gr * sz:=Nat.mul_le_mul (by omega) (by omega)
  have n1:(2:Int)+(jr:Int)=((2+jr:Nat):Int):=rfl
  have n2:((2+jr:Nat):Int)+((k * sz:Nat):Int)=((2+jr+k * sz:Nat):Int):=rfl
  have n3:((2+jr+k * sz:Nat):Int)+1=((2+jr+k * sz+1:Nat):Int):=rfl
  have n4:((2+jr+k * sz:Nat):Int)+2=((2+jr+k * sz+2:Nat):Int):=rfl
  have n5:((2+jr+k * sz+2:Nat):Int)+((ino / 4:Nat):Int)=((2+jr+k * sz+2+ino / 4:Nat):Int):=rfl
  have n6:(sz:Int) - 2=((sz - 2:Nat):Int):=by omega
  have n7:((sz - 2:Nat):Int) - ((ino / 4:Nat):Int)=((sz - 2 - ino / 4:Nat):Int):=by omega
  have n8:(2:Int)+((ino / 4:Nat):Int)=((2+ino / 4:Nat):Int):=rfl
  have hg:=W.hg
  have bg:=W.bg
  have bl:=W.bl
  iterate 17 (first|apply Goes.seq|apply Goes.skip|apply Goes.block|apply Goes.loop|((first|apply Goes.Zm|apply Goes.ops2 fits Hh Zc); · simp (maxSteps:=9^6) +decide (disch:=first|omega|(simp only[lens]<;>omega)|decide) only [go_sem,Za,simprocAttr,e0,e1,e3,e31,e32,hg,Yn,gm,n1,n2,n3,n4,n5,n6,n7,n8,Z33,wrP,rdP,read1]<;>rfl))
  refine (Zyr Hh F s6 hk0 4 0 _ _ (by omega) (by show 2+jr+k * sz≤b; omega) (W.move ?_ ?_) ?_ ?_ ?_).mono ?_
  ·simp only[H.Zj,H.Zg]<;>omega
  ·intro m' hm
   rw[Zp (by omega),Yg (by omega)]
  ·simp (decide:=true) only [Zd,reduceIte,e0]
  ·simp (decide:=true) only [Zd,reduceIte]<;>rfl
  ·simp (decide:=true) only [Zd,reduceIte]<;>rfl
  rintro x ds' ts' h' ⟨rfl,tsk,⟨rfl,y1,y2,y3⟩|⟨rfl,q,y1,y2,y3,y4⟩⟩
  ·have f0:Zk ts' 0=.w (.c (.yield l)):=(tsk 0 (.inl (by decide))).trans (by simp (decide:=true) only [Zd,reduceIte,e0])
   have f1:Zk ts' 1=.w (.c (.ptr pg 0)):=(tsk 1 (.inl (by decide))).trans (by simp (decide:=true) only [Zd,reduceIte,e1])
   have f3:Zk ts' 3=.w (.c (.int .i64 ((ino / 4:Nat):Int))):=(tsk 3 (.inl (by decide))).trans (by simp (decide:=true) only [Zd,reduceIte,e3])
   have f31:Zk ts' 31=.w (.c (.int .i64 gr)):=(tsk 31 (.inr (.inl rfl))).trans (by simp (decide:=true) only [Zd,reduceIte,e31])
   have f32:Zk ts' 32=.w (.c (.int .i64 k)):=(tsk 32 (.inr (.inr rfl))).trans (by simp (decide:=true) only [Zd,reduceIte,e32])
   simp only[H.Zj,H.Zg] at y2 y3
   have y4:∀ m,m<h.next→h'.get m=h.get m:=fun m' hm=>by
    rw[y3 m' (by omega),Zp (by omega),Yg (by omega)]
   have mu:(k+1) * sz=k * sz+sz:=by rw[Nat.add_mul,Nat.one_mul]
   (apply Goes.ops2 fits Hh Zc; · simp (maxSteps:=9^6) +decide (disch:=first|omega|(simp only[lens]<;>omega)|decide) only [go_sem,Zb,Za,simprocAttr,f0,f1,f3,f31,f32]<;>rfl)
   show Goes K Tryz.prog 79 none (q156 [1,1,1,1,2]) _ _ _ _
   refine (ih (k+1) _ h' (by omega) (by omega) (W.move (by omega) y4) ?_ ?_ ?_ ?_ ?_).mono ?_
   ·simp (decide:=true) only [Zd,reduceIte,f0]
   ·simp (decide:=true) only [Zd,reduceIte,f1]
   ·simp (decide:=true) only [Zd,reduceIte,f3]
   ·simp (decide:=true) only [Zd,reduceIte,f31]
   ·simp (decide:=true) only [Zd,reduceIte]<;>rfl
   rintro x ds' ts2 h2 ⟨z1,z3⟩
   refine⟨z1,?_⟩
   rcases z3 with ⟨rfl,z4,z5,z6⟩|⟨rfl,k0,q,z4,z5,z6,z7,z8⟩
   ·exact .inl ⟨rfl,z4,by omega,fun m' hm=>(z6 m' (by omega)).trans (y4 m' hm)⟩
   ·exact .inr ⟨rfl,k0,q,z4,z5,z6,z7,z8.back (by omega) y4⟩
  ·exact⟨rfl,.inr ⟨rfl,k,q,hk0,y1,y2,y3,y4.back (by simp only[H.Zj,H.Zg]<;>omega) (fun m' hm=>by rw[Zp (by omega),Yg (by omega)])⟩⟩
def Us (gr sz ino jr b:Nat):Nat × Nat × Nat :=
 if b=0 then (1,0,0) else if b=1 then (2,0,0) else if b<2+jr then (3,0,b - 2) else if 2+jr+gr * sz≤b then (0,0,0)
 else ((if (b - 2 - jr) % sz=0 then 4 else if (b - 2 - jr) % sz=1 then 5 else if (b - 2 - jr) % sz<2+ino / 4 then 6 else 7),(b - 2 - jr) / sz,(b - 2 - jr) % sz)
omit Hh in
theorem Znx {gr sz ino jr b q:Nat} (F:Fine gr sz ino jr) (hq:q<3) (h1:Xt jr q≤b) (h2:b<Xt jr (q+1)):Us gr sz ino jr b=((Zk3 jr q).1,0,b - Xt jr q):=by
 obtain⟨g1,g2,g3,g4,g5,g6,g7,g8,g9,g10,g11⟩:=F
 have:q=0∨q=1∨q=2:=by omega
 unfold Us
 rcases this with rfl|rfl|rfl<;>simp only[Xt,Zk3,Nat.reduceAdd] at h1 h2 ⊢
 ·obtain rfl:b=0:=by omega
  rfl
 ·obtain rfl:b=1:=by omega
  rfl
 ·rw[if_neg (by omega),if_neg (by omega),if_pos (by omega)]
omit Hh in
theorem Zks {gr sz ino jr b k q:Nat} (F:Fine gr sz ino jr) (hk:k<gr) (hq:q<4) (h1:Sr sz ino jr k q≤b) (h2:b<Sr sz ino jr k (q+1)):Us gr sz ino jr b=((Zf6 sz ino jr k q).1,k,b - Sr sz ino jr k 0):=by
 obtain⟨g1,g2,g3,g4,g5,g6,g7,g8,g9,g10,g11⟩:=F
 have m1:k * sz+sz≤gr * sz:=by
  have:=Nat.mul_le_mul_right sz (show k+1≤gr by omega)
  rw[Nat.add_mul] at this
  omega
 have e0:Sr sz ino jr k 0=2+jr+k * sz:=rfl
 have r1:2+jr+k * sz≤b∧b<2+jr+k * sz+sz:=by
  have:q=0∨q=1∨q=2∨q=3:=by omega
  rcases this with rfl|rfl|rfl|rfl<;>simp only[Sr,Nat.reduceAdd] at h1 h2<;>omega
 obtain⟨p,hp⟩:∃ p,b=2+jr+k * sz+p:=⟨b - (2+jr+k * sz),by omega⟩
 have hps:p<sz:=by omega
 have d1:b - 2 - jr=p+k * sz:=by omega
 have d2:(b - 2 - jr) / sz=k:=by rw[d1,Nat.add_mul_div_right _ _ (by omega),Nat.div_eq_of_lt hps,Nat.zero_add]
 have d3:(b - 2 - jr) % sz=p:=by rw[d1,Nat.add_mul_mod_self_right,Nat.mod_eq_of_lt hps]
 unfold Us
 rw[if_neg (by omega),if_neg (by omega),if_neg (by omega),if_neg (by omega),d2,d3,e0]
 have:q=0∨q=1∨q=2∨q=3:=by omega
 rcases this with rfl|rfl|rfl|rfl<;>simp only[Sr,Zf6,Nat.reduceAdd] at h1 h2 ⊢
 ·rw[if_pos (by omega)]; congr 2; omega
 ·rw[if_neg (by omega),if_pos (by omega)]; congr 2; omega
 ·rw[if_neg (by omega),if_neg (by omega),if_pos (by omega)]; congr 2; omega
 ·rw[if_neg (by omega),if_neg (by omega),if_neg (by omega)]; congr 2; omega
end
section
variable (Hh:Hearts K Tryz.prog)
include Hh
theorem Zwn (gr sz ino jr:Nat) (h:Go.Ev.H):Ze K Tryz.prog 117 [.g (Yn gr sz ino jr)] h (.w (.c (.fn 156 [] [some (h.next,0)]))) (h.new (.row 4 [Yn gr sz ino jr] false)):=by
 refine Ze.goes fits Hh (by kernel_rfl) (by kernel_rfl) (by kernel_rfl) (show Tryz.f117.body=some _ from rfl) rfl ?_
 iterate 5 (first|apply Goes.seq|apply Goes.ret|(apply Goes.ops2 fits Hh Zc; · simp (maxSteps:=9^6) +decide (disch:=first|omega|(simp only[lens]<;>omega)|decide) only [go_sem,Zb,Za,simprocAttr,Zx,Yn]<;>rfl))
 simp (maxSteps:=9^6) +decide (disch:=first|omega|(simp only[lens]<;>omega)|decide) only [go_sem,Zb,Za,simprocAttr,Zx,Yn]<;>rfl
set_option maxHeartbeats 4000000 in
theorem Zc1 {l pb p4 p5 p6 pg gr sz ino jr b d:Nat} {tl:Zu} (F:Fine gr sz ino jr) (s6:b<9223372036854775808) {h:Go.Ev.H} (W:WCtx l pb p4 p5 p6 pg gr sz ino jr b d tl h) :
  ∃ v h',Ze K Tryz.prog 156 [.c (.yield l),.c (.ptr pg 0)] h v h'∧((2+jr+gr * sz≤b∧h.next≤h'.next∧∀ m,m<h.next→h'.get m=h.get m)∨WAns l p4 p5 p6 d tl (Us gr sz ino jr b).1 (Us gr sz ino jr b).2.1 (Us gr sz ino jr b).2.2 h h'):=by
 have F':=F
 obtain⟨g1,g2,g3,g4,g5,g6,g7,g8,g9,g10,g11⟩:=F'
 have hg:=W.hg
 have bg:=W.bg
 have bl:=W.bl
 have q1:Dz .i64 (ino:Int) 4=some (.int .i64 ((ino / 4:Nat):Int)):=Dn (b:=4) (by omega) (by omega)
 refine Ze.Yi fits Hh (by kernel_rfl) (by kernel_rfl) (by kernel_rfl) (show Tryz.f156.body=some _ from rfl) rfl ?_
 iterate 8 (first|apply Goes.seq|apply Goes.block|(apply Goes.ops2 fits Hh Zc; · simp (maxSteps:=9^6) +decide (disch:=first|omega|(simp only[lens]<;>omega)|decide) only [go_sem,Za,simprocAttr,hg,Yn,q1,Z38,wrP,rdP,read1]<;>rfl))
 refine (Zsv Hh F s6 3 0 _ _ (by omega) (Nat.zero_le _) (W.move ?_ ?_) ?_ ?_ ?_).mono ?_
 ·simp only[H.Zj,H.Zg]<;>omega
 ·intro m' hm
  rw[Zp (by omega),Yg (by omega)]
 ·simp (decide:=true) only [Zd,reduceIte,J9,List.getElem?_cons_zero]
 ·simp (decide:=true) only [Zd,reduceIte]<;>rfl
 ·simp (decide:=true) only [Zd,reduceIte]<;>rfl
 rintro x ds' ts' h' ⟨rfl,tsk,⟨rfl,y1,y2,y3⟩|⟨rfl,q,y1,y2,y3,y4⟩⟩
 ·have f0:Zk ts' 0=.w (.c (.yield l)):=(tsk 0 (by decide)).trans (by simp (decide:=true) only [Zd,reduceIte,J9,List.getElem?_cons_zero])
  have f1:Zk ts' 1=.w (.c (.ptr pg 0)):=(tsk 1 (by decide)).trans (by simp (decide:=true) only [Zd,reduceIte,J9,List.getElem?_cons_succ,List.getElem?_cons_zero])
  have f3:Zk ts' 3=.w (.c (.int .i64 ((ino / 4:Nat):Int))):=(tsk 3 (by decide)).trans (by simp (decide:=true) only [Zd,reduceIte])
  simp only[H.Zj,H.Zg] at y2 y3
  have y4:∀ m,m<h.next→h'.get m=h.get m:=fun m' hm=>by
   rw[y3 m' (by omega),Zp (by omega),Yg (by omega)]
  have W2:=W.move (by omega) y4
  have hg2:=W2.hg
  iterate 3 (first|apply Goes.seq|apply Goes.block|(apply Goes.ops2 fits Hh Zc; · simp (maxSteps:=9^6) +decide (disch:=first|omega|(simp only[lens]<;>omega)|decide) only [go_sem,Zb,Za,simprocAttr,f0,f1,f3,hg2,Yn,read1]<;>rfl))
  refine (Zvw Hh F s6 gr 0 _ _ (by omega) (by omega) W2 ?_ ?_ ?_ ?_ ?_).mono ?_
  ·simp (decide:=true) only [Zd,reduceIte,f0]
  ·simp (decide:=true) only [Zd,reduceIte,f1]
  ·simp (decide:=true) only [Zd,reduceIte,f3]
  ·simp (decide:=true) only [Zd,reduceIte]
  ·simp (decide:=true) only [Zd,reduceIte]<;>rfl
  rintro x ds' ts2 h2 ⟨rfl,⟨rfl,z4,z5,z6⟩|⟨rfl,k0,q,z4,z5,z6,z7,z8⟩⟩
  ·
   exact⟨_,_,(by simp (maxSteps:=9^6) +decide (disch:=first|omega|(simp only[lens]<;>omega)|decide) only [go_sem,Zb,Za,simprocAttr]<;>rfl),.inl ⟨z4,by omega,fun m hm=>(z6 m (by omega)).trans (y4 m hm)⟩⟩
  ·refine⟨_,_,(by simp (maxSteps:=9^6) +decide (disch:=first|omega|(simp only[lens]<;>omega)|decide) only [go_sem,Zb,Za,simprocAttr]<;>rfl),.inr ?_⟩
   rw[Zks F z4 z5 z6 z7]
   exact z8.back (by omega) y4
 ·refine⟨_,_,(by simp (maxSteps:=9^6) +decide (disch:=first|omega|(simp only[lens]<;>omega)|decide) only [go_sem,Zb,Za,simprocAttr]<;>rfl),.inr ?_⟩
  rw[Znx F y1 y2 y3]
  exact y4.back (by simp only[H.Zj,H.Zg]<;>omega) (fun m hm=>by rw[Zp (by omega),Yg (by omega)])
theorem Zwx {gr sz ino jr b pb p4 p5 p6 pg:Nat} (F:Fine gr sz ino jr) (s6:b<9223372036854775808) (ts:Zu) (h:Go.Ev.H) (d1:p4≠p5) (d2:p4≠p6) (d3:p5≠p6) (d4:pb≠p4) (d5:pb≠p5) (d6:pb≠p6) (b4:p4<h.next) (b5:p5<h.next) (b6:p6<h.next) (bb:pb<h.next) (bg:pg<h.next)
  (e3:Zk ts 3=.w (.c (.ptr pb 0))) (e4:Zk ts 4=.w (.c (.ptr p4 0))) (e5:Zk ts 5=.w (.c (.ptr p5 0))) (e6:Zk ts 6=.w (.c (.ptr p6 0))) (e16:Zk ts 16=.w (.c (.fn 156 [] [some (pg,0)])))
  (hb:h.get pb=some (.row 1 [[.int .i64 b]] false)) (r4:∃ x,h.get p4=some (.row 1 [[x]] false)) (r5:∃ x,h.get p5=some (.row 1 [[x]] false)) (r6:∃ x,h.get p6=some (.row 1 [[x]] false)) (hg:h.get pg=some (.row 4 [Yn gr sz ino jr] false)) :
  Goes K Tryz.prog 36 none (q84 [1,1,0,1,2]) [] ts h fun x ds' ts' h'=>ts'=ts∧ds'=[h.next]∧h'.get h.next=some .defers∧((x=.normal∧Us gr sz ino jr b=(0,0,0)∧∀ m,m<h.next→h'.get m=h.get m) ∨
   (x=.ret∧h'.get p4=some (.row 1 [[.int .u8 (Us gr sz ino jr b).1]] false)∧h'.get p5=some (.row 1 [[.int .i64 (Us gr sz ino jr b).2.1]] false)∧h'.get p6=some (.row 1 [[.int .i64 (Us gr sz ino jr b).2.2]] false)∧∀ m,m<h.next→m≠p4→m≠p5→m≠p6→h'.get m=h.get m)):=by
 have g0:∀ (o:O) m,m<h.next→((h.new .defers).new o).get m=h.get m:=fun o m hm=>by rw[Yg (by rw[H.Zg]; omega),Yg (by omega)]
 have W:WCtx (h.next+1) pb p4 p5 p6 pg gr sz ino jr b h.next ts ((h.new .defers).new (.loop ts 36 [17] (q84 [1,1,0,1,2,5]) (q84 [1,1,0,1,2,6]) .ready none h.next)) :=
  ⟨d1,d2,d3,d4,d5,d6,by omega,by omega,by omega,by omega,by simp only[H.Zg]; omega,by simp only[H.Zg]; omega,by simp only[H.Zg]; omega,by simp only[H.Zg]; omega,by simp only[H.Zg]; omega,by simp only[H.Zg]; omega,e3,e4,e5,e6,
   by rw[Uw (by simp only[H.Zg]<;>omega)],by rw[g0 _ _ bb]; exact hb,by rw[g0 _ _ b4]; exact r4,by rw[g0 _ _ b5]; exact r5,by rw[g0 _ _ b6]; exact r6,by rw[g0 _ _ bg]; exact hg⟩
 have gd:∀ o:O,((h.new .defers).new o).get h.next=some .defers:=fun o=>by rw[Yg (by rw[H.Zg]; omega),Dw]
 rw[Zsr]
 refine Goes.Zov fits Hh (f:=156) (first:=[]) (caps:=[some (pg,0)]) (by simp only[Zv,Z7,e16,asC]) (exE (Zc1 Hh F s6 W) ?_)
 rintro v h3 (⟨w1,w2,w3⟩|A)
 ·simp only[H.Zg] at w2 w3
  have hN:Us gr sz ino jr b=(0,0,0):=by
   obtain⟨g1,g2,g3,g4,g5,g6,g7,g8,g9,g10,g11⟩:=F
   unfold Us
   rw[if_neg (by omega),if_neg (by omega),if_neg (by omega),if_pos w1]
  refine⟨_,_,_,_,_,_,_,_,(w3 _ (by omega)).trans W.hl,by simp,?_⟩
  show _∧_∧_
  refine⟨rfl,rfl,?_,.inl ⟨rfl,hN,fun m hm=>?_⟩⟩
  ·rw[Zp (by omega),w3 _ (by omega),gd]
  ·rw[Zp (by omega),w3 _ (by omega),g0 _ _ hm]
 ·have kp:=A.keep
  simp only[H.Zg] at kp
  refine⟨_,_,_,_,_,_,_,_,A.hl,by simp,?_⟩
  show _∧_∧_
  refine⟨rfl,rfl,?_,.inr ⟨rfl,?_,?_,?_,fun m hm n4 n5 n6=>?_⟩⟩
  ·rw[Zp (by omega),kp _ (by omega) (by omega) (by omega) (by omega) (by omega),gd]
  ·rw[Zp (by omega),A.r4]
  ·rw[Zp (by omega),A.r5]
  ·rw[Zp (by omega),A.r6]
  ·rw[Zp (by omega),kp _ (by omega) (by omega) n4 n5 n6,g0 _ _ hm]
set_option maxHeartbeats 4000000 in
theorem Ztg {gr sz ino jr:Nat} (F:Fine gr sz ino jr) (h:Go.Ev.H) (b:Nat) (s6:b<9223372036854775808):Ze K Tryz.prog 84 [.g (Yn gr sz ino jr),.c (.int .i64 b)] h (.tup [.c (.int .u8 ((Us gr sz ino jr b).1:Nat)),.c (.int .i64 ((Us gr sz ino jr b).2.1:Nat)),.c (.int .i64 ((Us gr sz ino jr b).2.2:Nat))]) h:=by
 obtain⟨v,h',c,rfl,hk⟩:∃ v h',Ze K Tryz.prog 84 [.g (Yn gr sz ino jr),.c (.int .i64 b)] h v h'∧v=.tup [.c (.int .u8 ((Us gr sz ino jr b).1:Nat)),.c (.int .i64 ((Us gr sz ino jr b).2.1:Nat)),.c (.int .i64 ((Us gr sz ino jr b).2.2:Nat))]∧∀ m,m<h.next→h'.get m=h.get m:=by
  refine Ze.Yi fits Hh (by kernel_rfl) (by kernel_rfl) (by kernel_rfl) (show Tryz.f84.body=some _ from rfl) rfl ?_
  iterate 4 (first|apply Goes.seq|(apply Goes.ops2 fits Hh Zc; · simp (maxSteps:=9^6) +decide (disch:=first|omega|(simp only[lens]<;>omega)|decide) only [go_sem,Zb,Za,simprocAttr,Yn,read1,Zx]<;>rfl))
  iterate 5 (first|apply Goes.seq|apply Goes.skip|((first|apply Goes.Zm|apply Goes.ops2 fits Hh (J6 Zc (Zh6 Hh F))); · simp (maxSteps:=9^6) +decide (disch:=first|omega|(simp only[lens]<;>omega)|decide) only [go_sem,Zb,Za,simprocAttr,Yn,read1,Zx]<;>rfl))
  iterate 2 (first|apply Goes.block|(apply Goes.ops2 fits Hh (J6 Zc (Zwn Hh gr sz ino jr)); · simp (maxSteps:=9^6) +decide (disch:=first|omega|(simp only[lens]<;>omega)|decide) only [go_sem,Zb,Za,simprocAttr,Yn,read1,Zx]<;>rfl))
  refine (Zwx Hh F s6 _ _ (pb:=h.next+1) (p4:=h.next+1+1) (p5:=h.next+1+1+1) (p6:=h.next+1+1+1+1) (pg:=h.next+1+1+1+1+1) (by omega) (by omega) (by omega) (by omega) (by omega) (by omega) (by simp only[H.Zg]<;>omega) (by simp only[H.Zg]<;>omega) (by simp only[H.Zg]<;>omega) (by simp only[H.Zg]<;>omega) (by simp only[H.Zg]<;>omega) (by simp (maxSteps:=9^6) +decide (disch:=first|omega|(simp only[lens]<;>omega)|decide) only [go_sem,Zb,Za,simprocAttr]) (by simp (maxSteps:=9^6) +decide (disch:=first|omega|(simp only[lens]<;>omega)|decide) only [go_sem,Zb,Za,simprocAttr]) (by simp (maxSteps:=9^6) +decide (disch:=first|omega|(simp only[lens]<;>omega)|decide) only [go_sem,Zb,Za,simprocAttr]) (by simp (maxSteps:=9^6) +decide (disch:=first|omega|(simp only[lens]<;>omega)|decide) only [go_sem,Zb,Za,simprocAttr]) (by simp (maxSteps:=9^6) +decide (disch:=first|omega|(simp only[lens]<;>omega)|decide) only [go_sem,Zb,Za,simprocAttr]) (by simp (maxSteps:=9^6) +decide (disch:=first|omega|(simp only[lens]<;>omega)|decide) only [go_sem,Zb,Za,simprocAttr]) ⟨_,by simp (maxSteps:=9^6) +decide (disch:=first|omega|(simp only[lens]<;>omega)|decide) only [go_sem,Zb,Za,simprocAttr]<;>rfl⟩ ⟨_,by simp (maxSteps:=9^6) +decide (disch:=first|omega|(simp only[lens]<;>omega)|decide) only [go_sem,Zb,Za,simprocAttr]<;>rfl⟩ ⟨_,by simp (maxSteps:=9^6) +decide (disch:=first|omega|(simp only[lens]<;>omega)|decide) only [go_sem,Zb,Za,simprocAttr]<;>rfl⟩ (by simp (maxSteps:=9^6) +decide (disch:=first|omega|(simp only[lens]<;>omega)|decide) only [go_sem,Zb,Za,simprocAttr]<;>rfl)).mono ?_
  rintro x ds' ts' h' ⟨rfl,rfl,gd,⟨rfl,hN,kp⟩|⟨rfl,r4,r5,r6,kp⟩⟩
  ·simp only[H.Zg] at gd kp
   have k4:=(kp (h.next+1+1) (by omega)).trans (show _=some (.row 1 [[.int .u8 0]] false) by simp (maxSteps:=9^6) +decide (disch:=first|omega|(simp only[lens]<;>omega)|decide) only [go_sem,Zb,Za,simprocAttr])
   have k5:=(kp (h.next+1+1+1) (by omega)).trans (show _=some (.row 1 [[.int .i64 0]] false) by simp (maxSteps:=9^6) +decide (disch:=first|omega|(simp only[lens]<;>omega)|decide) only [go_sem,Zb,Za,simprocAttr])
   have k6:=(kp (h.next+1+1+1+1) (by omega)).trans (show _=some (.row 1 [[.int .i64 0]] false) by simp (maxSteps:=9^6) +decide (disch:=first|omega|(simp only[lens]<;>omega)|decide) only [go_sem,Zb,Za,simprocAttr])
   iterate 3 (first|apply Goes.seq|apply Goes.ret|(apply Goes.ops2 fits Hh Zc; · simp (maxSteps:=9^6) +decide (disch:=first|omega|(simp only[lens]<;>omega)|decide) only [go_sem,Zb,Za,simprocAttr,k4,k5,k6,gd,read1,Z4]<;>rfl))
   refine⟨_,_,(by simp (maxSteps:=9^6) +decide (disch:=first|omega|(simp only[lens]<;>omega)|decide) only [go_sem,Zb,Za,simprocAttr,gd,read1]<;>rfl),by rw[hN]<;>rfl,fun m hm=>?_⟩
   simp (maxSteps:=9^6) +decide (disch:=first|omega|(simp only[lens]<;>omega)|decide) only [go_sem,Zb,Za,simprocAttr]
   rw[kp m (by omega)]
   simp (maxSteps:=9^6) +decide (disch:=first|omega|(simp only[lens]<;>omega)|decide) only [go_sem,Zb,Za,simprocAttr]
  ·simp only[H.Zg] at gd kp
   refine⟨_,_,(by simp (maxSteps:=9^6) +decide (disch:=first|omega|(simp only[lens]<;>omega)|decide) only [go_sem,Zb,Za,simprocAttr,gd,r4,r5,r6,read1]<;>rfl),rfl,fun m hm=>?_⟩
   simp (maxSteps:=9^6) +decide (disch:=first|omega|(simp only[lens]<;>omega)|decide) only [go_sem,Zb,Za,simprocAttr]
   rw[kp m (by omega) (by omega) (by omega) (by omega)]
   simp (maxSteps:=9^6) +decide (disch:=first|omega|(simp only[lens]<;>omega)|decide) only [go_sem,Zb,Za,simprocAttr]
 exact Ze.quiet c rfl hk
theorem Zxo {gr sz ino jr:Nat} (F:Fine gr sz ino jr) (h:Go.Ev.H) (z:Int) (hz:z<0):Ze K Tryz.prog 84 [.g (Yn gr sz ino jr),.c (.int .i64 z)] h (.tup [.c (.int .u8 0),.c (.int .i64 0),.c (.int .i64 0)]) h:=by
 obtain⟨v,h',c,rfl,hk⟩:∃ v h',Ze K Tryz.prog 84 [.g (Yn gr sz ino jr),.c (.int .i64 z)] h v h'∧v=.tup [.c (.int .u8 0),.c (.int .i64 0),.c (.int .i64 0)]∧∀ m,m<h.next→h'.get m=h.get m:=by
  refine Ze.Yi fits Hh (by kernel_rfl) (by kernel_rfl) (by kernel_rfl) (show Tryz.f84.body=some _ from rfl) rfl ?_
  iterate 4 (first|apply Goes.seq|(apply Goes.ops2 fits Hh Zc; · simp (maxSteps:=9^6) +decide (disch:=first|omega|(simp only[lens]<;>omega)|decide) only [go_sem,Zb,Za,simprocAttr,Yn,read1,Zx,Z4]<;>rfl))
  iterate 5 (first|apply Goes.seq|apply Goes.ret|((first|apply Goes.Zm|apply Goes.ops2 fits Hh (J6 Zc (Zh6 Hh F))); · simp (maxSteps:=9^6) +decide (disch:=first|omega|(simp only[lens]<;>omega)|decide) only [go_sem,Zb,Za,simprocAttr,Yn,read1,Zx,Z4]<;>rfl))
  refine⟨_,_,(by simp (maxSteps:=9^6) +decide (disch:=first|omega|(simp only[lens]<;>omega)|decide) only [go_sem,Zb,Za,simprocAttr,read1]<;>rfl),rfl,fun m hm=>by simp (disch:=first|omega|(simp only[lens]<;>omega)) only [go_sem]⟩
 exact Ze.quiet c rfl hk
end
end Go.Proofs.YtgikjeaipmeclaaGreatDoor
