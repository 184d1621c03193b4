/- A geometry that may be. -/
import Derived.Test.YtdmendgkbikkaaaGreatDoorSli
import Derived.Test.YtdmendgkbikkaaaGreatDoorEvC
set_option linter.unusedSimpArgs false
set_option linter.unusedVariables false
set_option linter.unusedSectionVars false
set_option maxRecDepth 100000
namespace Go.Proofs.YtdmendgkbikkaaaGreatDoor
open Go.Ev
structure Fine (gr sz ino jr:Nat):Prop where
 gr1:1≤gr
 gr4:gr≤4
 sz1:16≤sz
 sz2:sz≤512
 ino1:4≤ino
 ino2:ino≤64
 ino4:ino % 4=0
 jr1:40≤jr
 jr2:jr≤256
 fit:3+ino / 4≤sz
 all:2+jr+gr * sz≤2048
def Yw (gr sz ino jr:Nat):List C:=[.int .i64 gr,.int .i64 sz,.int .i64 ino,.int .i64 jr]
theorem Zao {j k b:Nat} (h:j<k):j * b+b≤k * b:=by
 have:=Nat.mul_le_mul_right b h
 rwa [Nat.succ_mul] at this
theorem ty4:K.types.get 4=some ti4:=by kernel_rfl
theorem sz4:ti4.size=1:=by rfl
theorem ag4:ti4.agg=false:=by rfl
theorem de4:ti4.desc=.bool:=by rfl
theorem ze4:ti4.zero=(.c (.bool false)):=by rfl
theorem by4:ti4.bytes=1:=by rfl
theorem ty54:K.types.get 54=some ti54:=by kernel_rfl
theorem sz54:ti54.size=4:=by rfl
theorem ag54:ti54.agg=true:=by rfl
theorem fo54_0:Zk K 54 0=some (0,ti3):=by kernel_rfl
theorem fo54_1:Zk K 54 1=some (1,ti3):=by kernel_rfl
theorem fo54_2:Zk K 54 2=some (2,ti3):=by kernel_rfl
theorem fo54_3:Zk K 54 3=some (3,ti3):=by kernel_rfl
theorem bu54 (ps:List (Nat × W)):Yd K 54 (some ps)=gW (Z4 K 54 ps ti54.zero.cells):=by kernel_rfl
theorem ze54:ti54.zero=(.g ([.int .i64 0,.int .i64 0,.int .i64 0,.int .i64 0])):=by rfl
theorem by54:ti54.bytes=32:=by rfl
attribute [go_sem] ty3 sz3 ag3 de3 ze3 by3 ke3 ty4 sz4 ag4 de4 ze4 by4 ty54 sz54 ag54 fo54_0 fo54_1 fo54_2 fo54_3 bu54 ze54 by54
theorem rs53:Tryz.f53.results.toList=[.tmp 2]:=rfl
theorem rs104:Tryz.f104.results.toList=[.tmp 2]:=rfl
attribute [go_sem] rs53 rs104
section
variable (Hh:Hearts K Tryz.prog)
include Hh
theorem Zjj {gr sz ino jr:Nat} (F:Fine gr sz ino jr) (h:Go.Ev.H):Zg 53 [.g (Yw gr sz ino jr)] h (.w (.c (.bool true))) h:=by
 obtain⟨g1,g2,g3,g4,g5,g6,g7,g8,g9,g10,g11⟩:=F
 have gm:(gr:Int) * (sz:Int)=((gr * sz:Nat):Int):=rfl
 obtain⟨v,h',c,rfl,hk⟩:∃ v h',Zg 53 [.g (Yw gr sz ino jr)] h v h'∧v=.w (.c (.bool true))∧∀ m,m<h.next→h'.get m=h.get m:=by
  refine Jd Hh Tryz.f53 ?_
  repeat (first|apply Zp|apply Yk|apply Z6|apply Yb|((first|apply Goes.Zn|apply Goes.ops2 fits Hh Za); · simp (maxSteps:=9^6) +decide (disch:=first|omega|(simp only[lens]<;>omega)|decide) only [go_sem,Zm,Ze,simprocAttr,Yw,gm,read1]<;>rfl))
  refine⟨_,_,Zj,rfl,fun m hm=>?_⟩
  simp (maxSteps:=9^6) +decide (disch:=first|omega|(simp only[lens]<;>omega)|decide) only [go_sem,Zm,Ze,simprocAttr]
 exact Zv.quiet c rfl hk
theorem Zsr {gr sz ino jr:Nat} (F:Fine gr sz ino jr) (h:Go.Ev.H):Zg 104 [.g (Yw gr sz ino jr)] h (.w (.c (.int .i64 ((2+jr+gr * sz:Nat):Int)))) h:=by
 have F':=F
 obtain⟨g1,g2,g3,g4,g5,g6,g7,g8,g9,g10,g11⟩:=F'
 have gm:(gr:Int) * (sz:Int)=((gr * sz:Nat):Int):=rfl
 have c1:=Zjj Hh F (h.new (.row 4 [Yw gr sz ino jr] false))
 obtain⟨v,h',c,rfl,hk⟩:∃ v h',Zg 104 [.g (Yw gr sz ino jr)] h v h'∧v=.w (.c (.int .i64 ((2+jr+gr * sz:Nat):Int)))∧∀ m,m<h.next→h'.get m=h.get m:=by
  refine Jd Hh Tryz.f104 ?_
  iterate 4 (first|apply Zp|(apply Goes.ops2 fits Hh Za; · simp (maxSteps:=9^6) +decide (disch:=first|omega|(simp only[lens]<;>omega)|decide) only [go_sem,Zm,Ze,simprocAttr,Yw,gm,read1]<;>rfl))
  iterate 6 (first|apply Zp|apply Z6|apply Yb|((first|apply Goes.Zn|apply Goes.ops2 fits Hh (Zu Za c1)); · simp (maxSteps:=9^6) +decide (disch:=first|omega|(simp only[lens]<;>omega)|decide) only [go_sem,Zm,Ze,simprocAttr,Z8,Yw,gm,read1]<;>rfl))
  refine⟨_,_,Zj,rfl,fun m hm=>?_⟩
  simp (maxSteps:=9^6) +decide (disch:=first|omega|(simp only[lens]<;>omega)|decide) only [go_sem,Zm,Ze,simprocAttr]
 exact Zv.quiet c rfl hk
end
theorem ty5:K.types.get 5=some ti5:=by kernel_rfl
theorem sz5:ti5.size=1:=by rfl
theorem ag5:ti5.agg=false:=by rfl
theorem de5:ti5.desc=(.int .u8):=by rfl
theorem ze5:ti5.zero=(.c (.int .u8 0)):=by rfl
theorem by5:ti5.bytes=1:=by rfl
theorem ke5 (k:IntKind) (n:Int):Di K 20 5 (.c (.int k n))=true:=by kernel_rfl
theorem ty277:K.types.get 277=some ti277:=by kernel_rfl
theorem sz277:ti277.size=5:=by rfl
theorem ag277:ti277.agg=true:=by rfl
theorem fo277_0:Zk K 277 0=some (0,ti5):=by kernel_rfl
theorem fo277_1:Zk K 277 1=some (1,ti3):=by kernel_rfl
theorem fo277_2:Zk K 277 2=some (2,ti3):=by kernel_rfl
theorem fo277_3:Zk K 277 3=some (3,ti3):=by kernel_rfl
theorem fo277_4:Zk K 277 4=some (4,ti3):=by kernel_rfl
theorem bu277 (ps:List (Nat × W)):Yd K 277 (some ps)=gW (Z4 K 277 ps ti277.zero.cells):=by kernel_rfl
theorem ze277:ti277.zero=(.g ([.int .u8 0,.int .i64 0,.int .i64 0,.int .i64 0,.int .i64 0])):=by rfl
theorem by277:ti277.bytes=40:=by rfl
theorem ty318:K.types.get 318=some ti318:=by kernel_rfl
theorem sz318:ti318.size=15:=by rfl
theorem ag318:ti318.agg=true:=by rfl
theorem de318:ti318.desc=(.array 3 277):=by rfl
theorem ze318:ti318.zero=(.g ([.int .u8 0,.int .i64 0,.int .i64 0,.int .i64 0,.int .i64 0,.int .u8 0,.int .i64 0,.int .i64 0,.int .i64 0,.int .i64 0,.int .u8 0,.int .i64 0,.int .i64 0,.int .i64 0,.int .i64 0])):=by rfl
theorem by318:ti318.bytes=120:=by rfl
theorem ty319:K.types.get 319=some ti319:=by kernel_rfl
theorem sz319:ti319.size=20:=by rfl
theorem ag319:ti319.agg=true:=by rfl
theorem de319:ti319.desc=(.array 4 277):=by rfl
theorem ze319:ti319.zero=(.g ([.int .u8 0,.int .i64 0,.int .i64 0,.int .i64 0,.int .i64 0,.int .u8 0,.int .i64 0,.int .i64 0,.int .i64 0,.int .i64 0,.int .u8 0,.int .i64 0,.int .i64 0,.int .i64 0,.int .i64 0,.int .u8 0,.int .i64 0,.int .i64 0,.int .i64 0,.int .i64 0])):=by rfl
theorem by319:ti319.bytes=160:=by rfl
attribute [go_sem] ty5 sz5 ag5 de5 ze5 by5 ke5 ty277 sz277 ag277 fo277_0 fo277_1 fo277_2 fo277_3 fo277_4 bu277 ze277 by277 ty318 sz318 ag318 de318 ze318 by318 ty319 sz319 ag319 de319 ze319 by319
noncomputable def q120 (p:List Nat):Code:=piece p (Ut Tryz.f120)
theorem Zot:q120 [1,1,0,1,2]=.rangeFunc (.tmp 16) #[17] (q120 [1,1,0,1,2,5]) (q120 [1,1,0,1,2,6]):=by kernel_rfl
theorem Zmo:q120 [1,1,0,1,2,5]=.region 4 (Z3j (q120 [1,1,0,1,2,5])) false:=by kernel_rfl
theorem Zmp:q120 [1,1,0,1,2,6]=.block 1 (q120 [1,1,0,1,2,6,2]):=by kernel_rfl
noncomputable def q213 (p:List Nat):Code:=piece p (Ut Tryz.f213)
theorem rs120:Tryz.f120.results.toList=[.cell 4 5,.cell 5 3,.cell 6 3]:=rfl
theorem rs167:Tryz.f167.results.toList=[.tmp 2]:=rfl
theorem rs213:Tryz.f213.results.toList=[]:=rfl
attribute [go_sem] rs120 rs167 rs213
def Gw (kk gp fr sz pl:Nat):List C:=[.int .u8 kk,.int .i64 gp,.int .i64 fr,.int .i64 sz,.int .i64 pl]
section
variable (Hh:Hearts K Tryz.prog)
include Hh
theorem Z53 (l:Nat) (ts:Zw) (kk gp fr sz pl:Nat) (h:Go.Ev.H):Ya 36 (some l) (q120 [1,1,0,1,2,5]) [] (ts.set 17 (.w (.g (Gw kk gp fr sz pl)))) h fun x ds' ts' h'=>x=.normal∧ds'=[]∧(∀ s,s≤6→Zi ts' s=Zi ts s)∧Zi ts' 7=.w (.c (.ptr h.next 0))∧h'.next=h.next+1∧h'.get h.next=some (.row 5 [Gw kk gp fr sz pl] false)∧∀ m,m≠h.next→h'.get m=h.get m:=by
 (apply Goes.ops2 fits Hh Za; · simp (maxSteps:=9^6) +decide (disch:=first|omega|(simp only[lens]<;>omega)|decide) only [go_sem,Zm,Ze,simprocAttr,Gw]<;>rfl)
 refine⟨rfl,rfl,fun s hs=>?_,?_,rfl,?_,fun m hm=>?_⟩
 ·simp (decide:=true) only [Y6 hs]
 ·exact Zj
 ·simp (maxSteps:=9^6) +decide (disch:=first|omega|(simp only[lens]<;>omega)|decide) only [go_sem,Zm,Ze,simprocAttr,Gw]
 ·exact Zj
set_option maxHeartbeats 4000000 in
theorem Z54 (l:Nat) (ts:Zw) (pb p4 p5 p6 q kk gp fr sz pl b:Nat) (h:Go.Ev.H) (x4 x5 x6:C) (s1:kk<256) (s2:gp<1000000) (s3:fr<1000000) (s4:sz<1000000) (s5:pl<1000000) (s6:b<9223372036854775808) (s7:fr≤b)
  (d1:p4≠p5) (d2:p4≠p6) (d3:p5≠p6) (d4:pb≠p4) (d5:pb≠p5) (d6:pb≠p6) (d7:q≠p4) (d8:q≠p5) (d9:q≠p6)
  (e3:Zi ts 3=.w (.c (.ptr pb 0))) (e4:Zi ts 4=.w (.c (.ptr p4 0))) (e5:Zi ts 5=.w (.c (.ptr p5 0))) (e6:Zi ts 6=.w (.c (.ptr p6 0))) (e7:Zi ts 7=.w (.c (.ptr q 0)))
  (hb:h.get pb=some (.row 1 [[.int .i64 b]] false)) (hq:h.get q=some (.row 5 [Gw kk gp fr sz pl] false)) (r4:h.get p4=some (.row 1 [[x4]] false)) (r5:h.get p5=some (.row 1 [[x5]] false)) (r6:h.get p6=some (.row 1 [[x6]] false)) :
  Ya 36 (some l) (q120 [1,1,0,1,2,6]) [] ts h fun x _ _ h'=>h'.next=h.next∧(b<fr+sz→x=.ret∧h'.get p4=some (.row 1 [[.int .u8 kk]] false)∧h'.get p5=some (.row 1 [[.int .i64 gp]] false)∧h'.get p6=some (.row 1 [[.int .i64 ((pl+b - fr:Nat):Int)]] false))∧(fr+sz≤b→x=.normal∧h'=h)∧∀ m,m≠p4→m≠p5→m≠p6→h'.get m=h.get m:=by
 have w9:((pl:Int)+(b:Int)) - (fr:Int)=((pl+b - fr:Nat):Int):=by omega
 by_cases hlt:b<fr+sz
 ·
  iterate 7 (first|apply Zp|apply Yk|apply Yb|((first|apply Goes.Zn|apply Goes.ops2 fits Hh Za); · simp (maxSteps:=9^6) +decide (disch:=first|omega|(simp only[lens]<;>omega)|decide) only [go_sem,Zm,Ze,simprocAttr,e3,e4,e5,e6,e7,hb,hq,r4,r5,r6,Gw,read1,w9,Z9]<;>rfl)|(apply Goes.drawn2 fits Hh Za (by kernel_rfl); · simp (maxSteps:=9^6) +decide (disch:=first|omega|(simp only[lens]<;>omega)|decide) only [go_sem,Zm,Ze,simprocAttr,drG,e3,e4,e5,e6,e7,hb,hq,r4,r5,r6,Gw,read1,w9,Z9]<;>rfl))
  refine⟨rfl,fun _=>⟨rfl,?_,?_,?_⟩,fun h9=>by omega,fun m h1 h2 h3=>?_⟩
  ·exact Zj
  ·exact Zj
  ·exact Zj
  ·exact Zj
 ·
  iterate 5 (first|apply Zp|apply Z6|apply Yk|((first|apply Goes.Zn|apply Goes.ops2 fits Hh Za); · simp (maxSteps:=9^6) +decide (disch:=first|omega|(simp only[lens]<;>omega)|decide) only [go_sem,Zm,Ze,simprocAttr,e3,e4,e5,e6,e7,hb,hq,r4,r5,r6,Gw,read1]<;>rfl))
  exact⟨rfl,fun h9=>by omega,fun _=>⟨rfl,rfl⟩,fun _ _ _ _=>rfl⟩
theorem Ztq (l:Nat) (ts:Zw) (pb p4 p5 p6 kk gp fr sz pl b d:Nat) (h:Go.Ev.H) (x4 x5 x6:C) (s1:kk<256) (s2:gp<1000000) (s3:fr<1000000) (s4:sz<1000000) (s5:pl<1000000) (s6:b<9223372036854775808) (s7:fr≤b)
  (d1:p4≠p5) (d2:p4≠p6) (d3:p5≠p6) (d4:pb≠p4) (d5:pb≠p5) (d6:pb≠p6) (l4:l≠p4) (l5:l≠p5) (l6:l≠p6) (lb:l≠pb) (b4:p4<h.next) (b5:p5<h.next) (b6:p6<h.next) (bb:pb<h.next) (bl:l<h.next)
  (e3:Zi ts 3=.w (.c (.ptr pb 0))) (e4:Zi ts 4=.w (.c (.ptr p4 0))) (e5:Zi ts 5=.w (.c (.ptr p5 0))) (e6:Zi ts 6=.w (.c (.ptr p6 0)))
  (hl:h.get l=some (.loop ts 36 [17] (q120 [1,1,0,1,2,5]) (q120 [1,1,0,1,2,6]) .ready none d))
  (hb:h.get pb=some (.row 1 [[.int .i64 b]] false)) (r4:h.get p4=some (.row 1 [[x4]] false)) (r5:h.get p5=some (.row 1 [[x5]] false)) (r6:h.get p6=some (.row 1 [[x6]] false)) :
  ∃ E h' r,Sound K Tryz.prog E∧G9 E l (some [.g (Gw kk gp fr sz pl)]) h (h.get l)=some (.val (.w (.c (.bool r))) h')∧h.next≤h'.next ∧
   (fr+sz≤b→r=true∧∀ m,m<h.next→h'.get m=h.get m) ∧
   (b<fr+sz→r=false∧h'.get l=some (.loop ts 36 [17] (q120 [1,1,0,1,2,5]) (q120 [1,1,0,1,2,6]) .done (some .ret) d)∧h'.get p4=some (.row 1 [[.int .u8 kk]] false)∧h'.get p5=some (.row 1 [[.int .i64 gp]] false)∧h'.get p6=some (.row 1 [[.int .i64 ((pl+b - fr:Nat):Int)]] false)∧∀ m,m<h.next→m≠l→m≠p4→m≠p5→m≠p6→h'.get m=h.get m):=by
 obtain⟨xa,ds1,ts1,h1,kA,rfl,rfl,t1,t7,n1,g1,f1⟩:=Z53 Hh l ts kk gp fr sz pl h
 have q1:∀ m,m<h.next→m≠l→(h1.put l (.loop ts 36 [17] (q120 [1,1,0,1,2,5]) (q120 [1,1,0,1,2,6]) .busy none d)).get m=h.get m:=fun m hm hml=>by rw[Zo hml,f1 m (by omega)]
 have gl:h1.get l=some (.loop ts 36 [17] (q120 [1,1,0,1,2,5]) (q120 [1,1,0,1,2,6]) .ready none d):=by rw[f1 l (by omega)]; exact hl
 obtain⟨xb,ds2,ts2,h2,kB,n2,st,go,f2⟩:=Z54 Hh l ts1 pb p4 p5 p6 h.next kk gp fr sz pl b (h1.put l (.loop ts 36 [17] (q120 [1,1,0,1,2,5]) (q120 [1,1,0,1,2,6]) .busy none d)) x4 x5 x6 s1 s2 s3 s4 s5 s6 s7 d1 d2 d3 d4 d5 d6 (by omega) (by omega) (by omega)
  ((t1 3 (by decide)).trans e3) ((t1 4 (by decide)).trans e4) ((t1 5 (by decide)).trans e5) ((t1 6 (by decide)).trans e6) t7 ((q1 pb bb (Ne.symm lb)).trans hb) (by rw[Zo (by omega)]; exact g1) ((q1 p4 b4 (Ne.symm l4)).trans r4) ((q1 p5 b5 (Ne.symm l5)).trans r5) ((q1 p6 b6 (Ne.symm l6)).trans r6)
 have hl2:h2.get l=some (.loop ts 36 [17] (q120 [1,1,0,1,2,5]) (q120 [1,1,0,1,2,6]) .busy none d):=by rw[f2 l l4 l5 l6]; exact Yg ..
 have S:=Dp (Dp Za kB) kA
 refine⟨_,_,_,S,Mf hl (by simp only[U4]; rfl) (Fe ..) gl (Qr (fun e=>?_) |>.trans (Fe ..)) hl2,?_,fun h9=>?_,fun h9=>?_⟩
 ·have e1:=(Task.code.inj e).1
  rw[Zmp,Zmo] at e1
  cases e1
 ·rw[H.Zf,n2,H.Zf,n1]; omega
 ·obtain⟨rfl,rfl⟩:=go h9
  refine⟨rfl,fun m hm=>?_⟩
  by_cases e:m=l
  ·subst e; rw[Yg,hl]; rfl
  ·rw[Zo e,q1 m hm e]
 ·obtain⟨rfl,k4,k5,k6⟩:=st h9
  refine⟨rfl,Yg ..,?_,?_,?_,fun m hm a1 a2 a3 a4=>?_⟩
  ·rw[Zo (Ne.symm l4)]; exact k4
  ·rw[Zo (Ne.symm l5)]; exact k5
  ·rw[Zo (Ne.symm l6)]; exact k6
  ·rw[Zo a1,f2 m a2 a3 a4,q1 m hm a1]
structure WCtx (l pb p4 p5 p6 pg gr sz ino jr b d:Nat) (ts:Zw) (h:Go.Ev.H):Prop where
 d1:p4≠p5
 d2:p4≠p6
 d3:p5≠p6
 d4:pb≠p4
 d5:pb≠p5
 d6:pb≠p6
 l4:l≠p4
 l5:l≠p5
 l6:l≠p6
 lb:l≠pb
 b4:p4<h.next
 b5:p5<h.next
 b6:p6<h.next
 bb:pb<h.next
 bl:l<h.next
 bg:pg<h.next
 e3:Zi ts 3=.w (.c (.ptr pb 0))
 e4:Zi ts 4=.w (.c (.ptr p4 0))
 e5:Zi ts 5=.w (.c (.ptr p5 0))
 e6:Zi ts 6=.w (.c (.ptr p6 0))
 hl:h.get l=some (.loop ts 36 [17] (q120 [1,1,0,1,2,5]) (q120 [1,1,0,1,2,6]) .ready none d)
 hb:h.get pb=some (.row 1 [[.int .i64 b]] false)
 r4:∃ x,h.get p4=some (.row 1 [[x]] false)
 r5:∃ x,h.get p5=some (.row 1 [[x]] false)
 r6:∃ x,h.get p6=some (.row 1 [[x]] false)
 hg:h.get pg=some (.row 4 [Yw gr sz ino jr] false)
omit Hh in
theorem WCtx.move {l pb p4 p5 p6 pg gr sz ino jr b d:Nat} {ts:Zw} {h h':Go.Ev.H} (W:WCtx l pb p4 p5 p6 pg gr sz ino jr b d ts h) (hn:h.next≤h'.next) (k:∀ m,m<h.next→h'.get m=h.get m):WCtx l pb p4 p5 p6 pg gr sz ino jr b d ts h':=by
 obtain⟨d1,d2,d3,d4,d5,d6,l4,l5,l6,lb,b4,b5,b6,bb,bl,bg,e3,e4,e5,e6,hl,hb,r4,r5,r6,hg⟩:=W
 exact⟨d1,d2,d3,d4,d5,d6,l4,l5,l6,lb,by omega,by omega,by omega,by omega,by omega,by omega,e3,e4,e5,e6,(k l bl).trans hl,(k pb bb).trans hb,by rw[k p4 b4]; exact r4,by rw[k p5 b5]; exact r5,by rw[k p6 b6]; exact r6,(k pg bg).trans hg⟩
structure WAns (l p4 p5 p6 d:Nat) (ts:Zw) (kk gp pl:Nat) (h0 h:Go.Ev.H):Prop where
 next:h0.next≤h.next
 hl:h.get l=some (.loop ts 36 [17] (q120 [1,1,0,1,2,5]) (q120 [1,1,0,1,2,6]) .done (some .ret) d)
 r4:h.get p4=some (.row 1 [[.int .u8 kk]] false)
 r5:h.get p5=some (.row 1 [[.int .i64 gp]] false)
 r6:h.get p6=some (.row 1 [[.int .i64 pl]] false)
 keep:∀ m,m<h0.next→m≠l→m≠p4→m≠p5→m≠p6→h.get m=h0.get m
omit Hh in
theorem WAns.back {l p4 p5 p6 d:Nat} {ts:Zw} {kk gp pl:Nat} {h0 h1 h:Go.Ev.H} (A:WAns l p4 p5 p6 d ts kk gp pl h1 h) (hn:h0.next≤h1.next) (k:∀ m,m<h0.next→h1.get m=h0.get m):WAns l p4 p5 p6 d ts kk gp pl h0 h :=
 ⟨Nat.le_trans hn A.next,A.hl,A.r4,A.r5,A.r6,fun m hm a b c e=>(A.keep m (Nat.lt_of_lt_of_le hm hn) a b c e).trans (k m hm)⟩
theorem WCtx.round {l pb p4 p5 p6 pg gr sz ino jr b d:Nat} {ts:Zw} {h:Go.Ev.H} (W:WCtx l pb p4 p5 p6 pg gr sz ino jr b d ts h) (kk gp fr sz' pl:Nat) (s1:kk<256) (s2:gp<1000000) (s3:fr<1000000) (s4:sz'<1000000) (s5:pl<1000000) (s6:b<9223372036854775808) (s7:fr≤b) :
  ∃ E h' r,Sound K Tryz.prog E∧G9 E l (some [.g (Gw kk gp fr sz' pl)]) h (some (.loop ts 36 [17] (q120 [1,1,0,1,2,5]) (q120 [1,1,0,1,2,6]) .ready none d))=some (.val (.w (.c (.bool r))) h') ∧
   (fr+sz'≤b→r=true∧h.next≤h'.next∧∀ m,m<h.next→h'.get m=h.get m)∧(b<fr+sz'→r=false∧WAns l p4 p5 p6 d ts kk gp (pl+b - fr) h h'):=by
 obtain⟨d1,d2,d3,d4,d5,d6,l4,l5,l6,lb,b4,b5,b6,bb,bl,bg,e3,e4,e5,e6,hl,hb,⟨x4,r4⟩,⟨x5,r5⟩,⟨x6,r6⟩,hg⟩:=W
 obtain⟨E,h',r,S,rnd,n,go,st⟩:=Ztq Hh l ts pb p4 p5 p6 kk gp fr sz' pl b d h x4 x5 x6 s1 s2 s3 s4 s5 s6 s7 d1 d2 d3 d4 d5 d6 l4 l5 l6 lb b4 b5 b6 bb bl e3 e4 e5 e6 hl hb r4 r5 r6
 rw[hl] at rnd
 refine⟨E,h',r,S,rnd,fun h9=>⟨(go h9).1,n,(go h9).2⟩,fun h9=>?_⟩
 obtain⟨rr,k1,k2,k3,k4,k5⟩:=st h9
 exact⟨rr,n,k1,k2,k3,k4,k5⟩
def Zl1 (jr:Nat):Nat→Nat × Nat × Nat × Nat × Nat
 | 0=>(1,0,0,1,0)
 | 1=>(2,0,1,1,0)
 | _=>(3,0,2,jr,0)
def Z10 (jr:Nat):List C:=[.int .u8 1,.int .i64 0,.int .i64 0,.int .i64 1,.int .i64 0,.int .u8 2,.int .i64 0,.int .i64 1,.int .i64 1,.int .i64 0,.int .u8 3,.int .i64 0,.int .i64 2,.int .i64 jr,.int .i64 0]
def Zrg (p:Nat × Nat × Nat × Nat × Nat):List C:=Gw p.1 p.2.1 p.2.2.1 p.2.2.2.1 p.2.2.2.2
def Wu (jr:Nat):Nat→Nat
 | 0=>0
 | 1=>1
 | 2=>2
 | _=>2+jr
theorem Zs9 {l pb p4 p5 p6 pg gr sz ino jr b d:Nat} {tl:Zw} (F:Fine gr sz ino jr) (s6:b<9223372036854775808):∀ (k i:Nat) (ts:Zw) (h:Go.Ev.H),i+k=3→Wu jr i≤b→WCtx l pb p4 p5 p6 pg gr sz ino jr b d tl h→Zi ts 0=.w (.c (.yield l))→Zi ts 21=.w (.g (Z10 jr))→Zi ts 22=.w (.c (.int .i64 i)) →
  Ya 79 none (q213 [1,1,0,1,2]) [] ts h fun x ds' ts' h'=>ds'=[]∧(∀ s,s≤3→Zi ts' s=Zi ts s)∧((x=.exit 0∧2+jr≤b∧h.next≤h'.next∧∀ m,m<h.next→h'.get m=h.get m) ∨
   (x=.ret∧∃ q,q<3∧Wu jr q≤b∧b<Wu jr (q+1)∧WAns l p4 p5 p6 d tl (Zl1 jr q).1 0 (b - Wu jr q) h h')):=by
 obtain⟨g1,g2,g3,g4,g5,g6,g7,g8,g9,g10,g11⟩:=F
 intro k
 induction k with
 | zero =>
  intro i ts h hi hbe W e0 e21 e22
  obtain rfl:i=3:=by omega
  have Jf:=@e22
  iterate 6 (first|apply Zp|apply Oe|apply Yt|refine Goes.Zn Zq ?_|refine Zy Hh Za Zq ?_)
  refine⟨rfl,fun s hs=>?_,.inl ⟨rfl,hbe,Nat.le_refl _,fun _ _=>rfl⟩⟩
  simp (decide:=true) only [Y6 hs]
 | succ k ih =>
  intro i ts h hi hbe W e0 e21 e22
  obtain⟨kk,gp,fr,sz',pl,hP⟩:∃ kk gp fr sz' pl,Zl1 jr i=(kk,gp,fr,sz',pl):=⟨_,_,_,_,_,rfl⟩
  have hi3:i=0∨i=1∨i=2:=by omega
  have hx:Zd2 K (some ti318) (Z10 jr) (some i)=some (.g (Gw kk gp fr sz' pl))∧kk<256∧gp=0∧fr=Wu jr i∧fr+sz'=Wu jr (i+1)∧pl=0∧fr<1000000∧sz'<1000000:=by
   rcases hi3 with rfl|rfl|rfl<;>(simp only[Zl1,Prod.mk.injEq] at hP; obtain⟨rfl,rfl,rfl,rfl,rfl⟩:=hP; exact⟨by kernel_rfl,by omega,rfl,rfl,rfl,rfl,by omega,by omega⟩)
  obtain⟨idx,k1,rfl,k3,k4,rfl,k6,k7⟩:=hx
  have W2:=W.move (h':=(h.new (.row 5 [[.int .u8 0,.int .i64 0,.int .i64 0,.int .i64 0,.int .i64 0]] false)).put h.next (.row 5 [Gw kk 0 fr sz' 0] false)) (by rw[H.Zf,H.Zc]; omega) (fun m hm=>by rw[Zo (by omega),Yn (by omega)])
  obtain⟨E,h2,r,S,rnd,go,st⟩:=WCtx.round Hh W2 kk 0 fr sz' 0 k1 (by omega) k6 k7 (by omega) s6 (by omega)
  have hl:=W.hl
  have bl:=W.bl
  have rp:Zm 5 [Gw kk 0 fr sz' 0] 0 5=some (Gw kk 0 fr sz' 0):=rfl
  have lp:(Gw kk 0 fr sz' 0).length=5:=rfl
  have wp:Z9 5 [[.int .u8 0,.int .i64 0,.int .i64 0,.int .i64 0,.int .i64 0]] 0 (Gw kk 0 fr sz' 0)=some [Gw kk 0 fr sz' 0]:=rfl
  by_cases hc:fr+sz'≤b
  ·obtain⟨rfl,n2,q2⟩:=go hc
   have q3:∀ m,m<h.next→h2.get m=h.get m:=fun m hm=>by
    rw[q2 m (by rw[H.Zf,H.Zc]; omega),Zo (by omega),Yn (by omega)]
   rw[H.Zf,H.Zc] at n2
   have Jf:=Ur @e0 @e21 @e22 @hl @idx @rp @lp @wp @rnd
   iterate 11 (first|apply Zp|apply Z6|apply Yk|apply Yt|refine Goes.Zn O4 ?_|refine Zy Hh Za O4 ?_)
   iterate 4 (first|apply Z6|refine Goes.Zn O4 ?_|refine Zy Hh S O4 ?_)
   show Ya 79 none (q213 [1,1,0,1,2]) _ _ _ _
   refine (ih (i+1) _ h2 (by omega) (by omega) (W.move (by omega) q3) ?_ ?_ ?_).mono ?_
   ·simp (decide:=true) only [Zb,reduceIte,e0]
   ·simp (decide:=true) only [Zb,reduceIte,e21]
   ·simp (decide:=true) only [Zb,reduceIte]<;>rfl
   ·rintro x ds' ts' h' ⟨z1,z2,z3⟩
    refine⟨z1,fun s hs=>(z2 s hs).trans (by simp (decide:=true) only [Y6 hs]),?_⟩
    rcases z3 with ⟨rfl,y1,y2,y3⟩|⟨rfl,q,y1,y2,y3,y4⟩
    ·exact .inl ⟨rfl,y1,by omega,fun m hm=>(y3 m (by omega)).trans (q3 m hm)⟩
    ·exact .inr ⟨rfl,q,y1,y2,y3,y4.back (by omega) q3⟩
  ·obtain⟨rfl,A⟩:=st (by omega)
   have A2:=A.back (h0:=h) (by rw[H.Zf,H.Zc]; omega) (fun m hm=>by rw[Zo (by omega),Yn (by omega)])
   have Jf:=Ur @e0 @e21 @e22 @hl @idx @rp @lp @wp @rnd
   iterate 11 (first|apply Zp|apply Z6|apply Yk|apply Yt|refine Goes.Zn O4 ?_|refine Zy Hh Za O4 ?_)
   iterate 3 (first|apply Yb|refine Goes.Zn O4 ?_|refine Zy Hh S O4 ?_)
   refine⟨rfl,fun s hs=>?_,.inr ⟨rfl,i,by omega,by omega,by omega,?_⟩⟩
   ·simp (decide:=true) only [Y6 hs]
   ·rw[hP,←k3]
    rwa [Nat.zero_add] at A2
def Tq (sz ino jr k:Nat):Nat→Nat
 | 0=>2+jr+k * sz
 | 1=>2+jr+k * sz+1
 | 2=>2+jr+k * sz+2
 | 3=>2+jr+k * sz+2+ino / 4
 | _=>2+jr+k * sz+sz
def Zgz (sz ino jr k:Nat):Nat→Nat × Nat × Nat × Nat × Nat
 | 0=>(4,k,2+jr+k * sz,1,0)
 | 1=>(5,k,2+jr+k * sz+1,1,1)
 | 2=>(6,k,2+jr+k * sz+2,ino / 4,2)
 | _=>(7,k,2+jr+k * sz+2+ino / 4,sz - 2 - ino / 4,2+ino / 4)
def Z5d (sz ino jr k:Nat):List C:=Zrg (Zgz sz ino jr k 0)++Zrg (Zgz sz ino jr k 1)++Zrg (Zgz sz ino jr k 2)++Zrg (Zgz sz ino jr k 3)
theorem Z0w {l pb p4 p5 p6 pg gr sz ino jr b d:Nat} {tl:Zw} (F:Fine gr sz ino jr) (s6:b<9223372036854775808) {k0:Nat} (hk0:k0<gr):∀ (k i:Nat) (ts:Zw) (h:Go.Ev.H),i+k=4→Tq sz ino jr k0 i≤b→WCtx l pb p4 p5 p6 pg gr sz ino jr b d tl h→Zi ts 0=.w (.c (.yield l))→Zi ts 69=.w (.g (Z5d sz ino jr k0))→Zi ts 70=.w (.c (.int .i64 i)) →
  Ya 79 none (q213 [1,1,1,1,2,2,1,1,0,2,1,1,1,1,2]) [] ts h fun x ds' ts' h'=>ds'=[]∧(∀ s,s≤8∨s=31∨s=32→Zi ts' s=Zi ts s)∧((x=.exit 4∧2+jr+k0 * sz+sz≤b∧h.next≤h'.next∧∀ m,m<h.next→h'.get m=h.get m) ∨
   (x=.ret∧∃ q,q<4∧Tq sz ino jr k0 q≤b∧b<Tq sz ino jr k0 (q+1)∧WAns l p4 p5 p6 d tl (Zgz sz ino jr k0 q).1 k0 (b - Tq sz ino jr k0 0) h h')):=by
 obtain⟨g1,g2,g3,g4,g5,g6,g7,g8,g9,g10,g11⟩:=F
 intro k
 induction k with
 | zero =>
  intro i ts h hi hbe W e0 e69 e70
  obtain rfl:i=4:=by omega
  have Jf:=@e70
  iterate 6 (first|apply Zp|apply Oe|apply Yt|refine Goes.Zn Zq ?_|refine Zy Hh Za Zq ?_)
  refine⟨rfl,fun s hs=>?_,.inl ⟨rfl,hbe,Nat.le_refl _,fun _ _=>rfl⟩⟩
  rcases hs with hs|rfl|rfl<;>first|(simp (decide:=true) only [Y6 hs])|(simp (decide:=true) only [Zb,reduceIte])
 | succ k ih =>
  intro i ts h hi hbe W e0 e69 e70
  obtain⟨kk,gp,fr,sz',pl,hP⟩:∃ kk gp fr sz' pl,Zgz sz ino jr k0 i=(kk,gp,fr,sz',pl):=⟨_,_,_,_,_,rfl⟩
  have m1:k0 * sz+sz≤gr * sz:=by
   have:=Nat.mul_le_mul_right sz (show k0+1≤gr by omega)
   rw[Nat.add_mul] at this
   omega
  have hi3:i=0∨i=1∨i=2∨i=3:=by omega
  have hx:Zd2 K (some ti319) (Z5d sz ino jr k0) (some i)=some (.g (Gw kk gp fr sz' pl))∧kk<256∧k0=gp∧fr=Tq sz ino jr k0 i∧fr+sz'=Tq sz ino jr k0 (i+1)∧pl+Tq sz ino jr k0 0=fr∧fr<1000000∧sz'<1000000:=by
   rcases hi3 with rfl|rfl|rfl|rfl<;>(simp only[Zgz,Prod.mk.injEq] at hP; obtain⟨rfl,rfl,rfl,rfl,rfl⟩:=hP; refine⟨by kernel_rfl,by omega,rfl,rfl,?_,?_,?_,?_⟩<;>first|rfl|(simp only[Tq,Nat.reduceAdd,Nat.zero_add]<;>omega)|omega)
  obtain⟨idx,k1,rfl,k3,k4,k5,k6,k7⟩:=hx
  have W2:=W.move (h':=(h.new (.row 5 [[.int .u8 0,.int .i64 0,.int .i64 0,.int .i64 0,.int .i64 0]] false)).put h.next (.row 5 [Gw kk k0 fr sz' pl] false)) (by rw[H.Zf,H.Zc]; omega) (fun m hm=>by rw[Zo (by omega),Yn (by omega)])
  obtain⟨E,h2,r,S,rnd,go,st⟩:=WCtx.round Hh W2 kk k0 fr sz' pl k1 (by omega) k6 k7 (by omega) s6 (by omega)
  have hl:=W.hl
  have bl:=W.bl
  have rp:Zm 5 [Gw kk k0 fr sz' pl] 0 5=some (Gw kk k0 fr sz' pl):=rfl
  have lp:(Gw kk k0 fr sz' pl).length=5:=rfl
  have wp:Z9 5 [[.int .u8 0,.int .i64 0,.int .i64 0,.int .i64 0,.int .i64 0]] 0 (Gw kk k0 fr sz' pl)=some [Gw kk k0 fr sz' pl]:=rfl
  by_cases hc:fr+sz'≤b
  ·obtain⟨rfl,n2,q2⟩:=go hc
   have q3:∀ m,m<h.next→h2.get m=h.get m:=fun m hm=>by
    rw[q2 m (by rw[H.Zf,H.Zc]; omega),Zo (by omega),Yn (by omega)]
   rw[H.Zf,H.Zc] at n2
   have Jf:=Ur @e0 @e69 @e70 @hl @idx @rp @lp @wp @rnd
   iterate 11 (first|apply Zp|apply Z6|apply Yk|apply Yt|refine Goes.Zn O4 ?_|refine Zy Hh Za O4 ?_)
   iterate 4 (first|apply Z6|refine Goes.Zn O4 ?_|refine Zy Hh S O4 ?_)
   show Ya 79 none (q213 [1,1,1,1,2,2,1,1,0,2,1,1,1,1,2]) _ _ _ _
   refine (ih (i+1) _ h2 (by omega) (by omega) (W.move (by omega) q3) ?_ ?_ ?_).mono ?_
   ·simp (decide:=true) only [Zb,reduceIte,e0]
   ·simp (decide:=true) only [Zb,reduceIte,e69]
   ·simp (decide:=true) only [Zb,reduceIte]<;>rfl
   ·rintro x ds' ts' h' ⟨z1,z2,z3⟩
    refine⟨z1,fun s hs=>(z2 s hs).trans (by rcases hs with hs|rfl|rfl<;>first|(simp (decide:=true) only [Y6 hs])|(simp (decide:=true) only [Zb,reduceIte])),?_⟩
    rcases z3 with ⟨rfl,y1,y2,y3⟩|⟨rfl,q,y1,y2,y3,y4⟩
    ·exact .inl ⟨rfl,y1,by omega,fun m hm=>(y3 m (by omega)).trans (q3 m hm)⟩
    ·exact .inr ⟨rfl,q,y1,y2,y3,y4.back (by omega) q3⟩
  ·obtain⟨rfl,A⟩:=st (by omega)
   have A2:=A.back (h0:=h) (by rw[H.Zf,H.Zc]; omega) (fun m hm=>by rw[Zo (by omega),Yn (by omega)])
   have Jf:=Ur @e0 @e69 @e70 @hl @idx @rp @lp @wp @rnd
   iterate 11 (first|apply Zp|apply Z6|apply Yk|apply Yt|refine Goes.Zn O4 ?_|refine Zy Hh Za O4 ?_)
   iterate 3 (first|apply Yb|refine Goes.Zn O4 ?_|refine Zy Hh S O4 ?_)
   refine⟨rfl,fun s hs=>?_,.inr ⟨rfl,i,by omega,by omega,by omega,?_⟩⟩
   ·rcases hs with hs|rfl|rfl<;>first|(simp (decide:=true) only [Y6 hs])|(simp (decide:=true) only [Zb,reduceIte])
   ·rw[hP]
    rwa [show pl+b - fr=b - Tq sz ino jr k0 0 by omega] at A2
end
theorem Z6c (a1 a2 a3 a4 a5 b1 b2 b3 b4 b5 c1 c2 c3 c4 c5:C):Yd K 318 (some [(0,.g [a1,a2,a3,a4,a5]),(1,.g [b1,b2,b3,b4,b5]),(2,.g [c1,c2,c3,c4,c5])])=some (.g [a1,a2,a3,a4,a5,b1,b2,b3,b4,b5,c1,c2,c3,c4,c5]):=by kernel_rfl
theorem Z6d (a1 a2 a3 a4 a5 b1 b2 b3 b4 b5 c1 c2 c3 c4 c5 d1 d2 d3 d4 d5:C):Yd K 319 (some [(0,.g [a1,a2,a3,a4,a5]),(1,.g [b1,b2,b3,b4,b5]),(2,.g [c1,c2,c3,c4,c5]),(3,.g [d1,d2,d3,d4,d5])])=some (.g [a1,a2,a3,a4,a5,b1,b2,b3,b4,b5,c1,c2,c3,c4,c5,d1,d2,d3,d4,d5]):=by kernel_rfl
theorem wrP {x y:List C} {n:Nat} (hx:x.length=n) (hy:y.length=n) (h:0<n):Z9 n [x] 0 y=some [y]:=by
 subst hy
 exact Ta h hx
theorem rdP {x:List C} {n:Nat} (hx:x.length=n) (h:0<n):Zm n [x] 0 n=some x:=by
 subst hx
 exact Xa h
section
variable (Hh:Hearts K Tryz.prog)
include Hh
set_option maxHeartbeats 4000000 in
theorem Zwx {l pb p4 p5 p6 pg gr sz ino jr b d:Nat} {tl:Zw} (F:Fine gr sz ino jr) (s6:b<9223372036854775808):∀ (m k:Nat) (ts:Zw) (h:Go.Ev.H),k+m=gr→2+jr+k * sz≤b→WCtx l pb p4 p5 p6 pg gr sz ino jr b d tl h→Zi ts 0=.w (.c (.yield l))→Zi ts 1=.w (.c (.ptr pg 0))→Zi ts 3=.w (.c (.int .i64 ((ino / 4:Nat):Int)))→Zi ts 31=.w (.c (.int .i64 gr))→Zi ts 32=.w (.c (.int .i64 k)) →
  Ya 79 none (q213 [1,1,1,1,2]) [] ts h fun x ds' ts' h'=>ds'=[]∧((x=.exit 2∧2+jr+gr * sz≤b∧h.next≤h'.next∧∀ m,m<h.next→h'.get m=h.get m) ∨
   (x=.ret∧∃ k0 q,k0<gr∧q<4∧Tq sz ino jr k0 q≤b∧b<Tq sz ino jr k0 (q+1)∧WAns l p4 p5 p6 d tl (Zgz sz ino jr k0 q).1 k0 (b - Tq sz ino jr k0 0) h h')):=by
 have F':=F
 obtain⟨g1,g2,g3,g4,g5,g6,g7,g8,g9,g10,g11⟩:=F'
 intro m
 induction m with
 | zero =>
  intro k ts h hk hb W e0 e1 e3 e31 e32
  obtain rfl:k=gr:=by omega
  have Jf:=Uq @e31 @e32
  iterate 6 (first|apply Zp|apply Oe|apply Yt|refine Goes.Zn Zq ?_|refine Zy Hh Za Zq ?_)
  exact⟨rfl,.inl ⟨rfl,hb,Nat.le_refl _,fun _ _=>rfl⟩⟩
 | succ m ih =>
  intro k ts h hk hb W e0 e1 e3 e31 e32
  have hk0:k<gr:=by omega
  have gm:(k:Int) * (sz:Int)=((k * sz:Nat):Int):=rfl
  have b1:k * sz≤gr * sz:=Nat.mul_le_mul (by omega) (by omega)
  have n1:(2:Int)+(jr:Int)=((2+jr:Nat):Int):=rfl
  have n2:((2+jr:Nat):Int)+((k * sz:Nat):Int)=((2+jr+k * sz:Nat):Int):=rfl
  have n3:((2+jr+k * sz:Nat):Int)+1=((2+jr+k * sz+1:Nat):Int):=rfl
  have n4:((2+jr+k * sz:Nat):Int)+2=((2+jr+k * sz+2:Nat):Int):=rfl
  have n5:((2+jr+k * sz+2:Nat):Int)+((ino / 4:Nat):Int)=((2+jr+k * sz+2+ino / 4:Nat):Int):=rfl
  have n6:(sz:Int) - 2=((sz - 2:Nat):Int):=by omega
  have n7:((sz - 2:Nat):Int) - ((ino / 4:Nat):Int)=((sz - 2 - ino / 4:Nat):Int):=by omega
  have n8:(2:Int)+((ino / 4:Nat):Int)=((2+ino / 4:Nat):Int):=rfl
  have hg:=W.hg
  have bg:=W.bg
  have bl:=W.bl
  iterate 17 (first|apply Zp|apply Z6|apply Yk|apply Yt|((first|apply Goes.Zn|apply Goes.ops2 fits Hh Za); · simp (maxSteps:=9^6) +decide (disch:=first|omega|(simp only[lens]<;>omega)|decide) only [go_sem,Ze,simprocAttr,e0,e1,e3,e31,e32,hg,Yw,gm,n1,n2,n3,n4,n5,n6,n7,n8,Z6d,wrP,rdP,read1]<;>rfl))
  refine (Z0w Hh F s6 hk0 4 0 _ _ (by omega) (by show 2+jr+k * sz≤b; omega) (W.move ?_ ?_) ?_ ?_ ?_).mono ?_
  ·simp only[H.Zf,H.Zc]<;>omega
  ·intro m' hm
   rw[Zo (by omega),Yn (by omega)]
  ·simp (decide:=true) only [Zb,reduceIte,e0]
  ·simp (decide:=true) only [Zb,reduceIte]<;>rfl
  ·simp (decide:=true) only [Zb,reduceIte]<;>rfl
  rintro x ds' ts' h' ⟨rfl,tsk,⟨rfl,y1,y2,y3⟩|⟨rfl,q,y1,y2,y3,y4⟩⟩
  ·have f0:Zi ts' 0=.w (.c (.yield l)):=(tsk 0 (.inl (by decide))).trans (by simp (decide:=true) only [Zb,reduceIte,e0])
   have f1:Zi ts' 1=.w (.c (.ptr pg 0)):=(tsk 1 (.inl (by decide))).trans (by simp (decide:=true) only [Zb,reduceIte,e1])
   have f3:Zi ts' 3=.w (.c (.int .i64 ((ino / 4:Nat):Int))):=(tsk 3 (.inl (by decide))).trans (by simp (decide:=true) only [Zb,reduceIte,e3])
   have f31:Zi ts' 31=.w (.c (.int .i64 gr)):=(tsk 31 (.inr (.inl rfl))).trans (by simp (decide:=true) only [Zb,reduceIte,e31])
   have f32:Zi ts' 32=.w (.c (.int .i64 k)):=(tsk 32 (.inr (.inr rfl))).trans (by simp (decide:=true) only [Zb,reduceIte,e32])
   simp only[H.Zf,H.Zc] at y2 y3
   have y4:∀ m,m<h.next→h'.get m=h.get m:=fun m' hm=>by
    rw[y3 m' (by omega),Zo (by omega),Yn (by omega)]
   have mu:(k+1) * sz=k * sz+sz:=by rw[Nat.add_mul,Nat.one_mul]
   have Jf:=Mt @f0 @f1 @f3 @f31 @f32
   refine Zy Hh Za Zq ?_
   show Ya 79 none (q213 [1,1,1,1,2]) _ _ _ _
   refine (ih (k+1) _ h' (by omega) (by omega) (W.move (by omega) y4) ?_ ?_ ?_ ?_ ?_).mono ?_
   ·simp (decide:=true) only [Zb,reduceIte,f0]
   ·simp (decide:=true) only [Zb,reduceIte,f1]
   ·simp (decide:=true) only [Zb,reduceIte,f3]
   ·simp (decide:=true) only [Zb,reduceIte,f31]
   ·simp (decide:=true) only [Zb,reduceIte]<;>rfl
   rintro x ds' ts2 h2 ⟨z1,z3⟩
   refine⟨z1,?_⟩
   rcases z3 with ⟨rfl,z4,z5,z6⟩|⟨rfl,k0,q,z4,z5,z6,z7,z8⟩
   ·exact .inl ⟨rfl,z4,by omega,fun m' hm=>(z6 m' (by omega)).trans (y4 m' hm)⟩
   ·exact .inr ⟨rfl,k0,q,z4,z5,z6,z7,z8.back (by omega) y4⟩
  ·exact⟨rfl,.inr ⟨rfl,k,q,hk0,y1,y2,y3,y4.back (by simp only[H.Zf,H.Zc]<;>omega) (fun m' hm=>by rw[Zo (by omega),Yn (by omega)])⟩⟩
def Oa (gr sz ino jr b:Nat):Nat × Nat × Nat :=
 if b=0 then (1,0,0) else if b=1 then (2,0,0) else if b<2+jr then (3,0,b - 2) else if 2+jr+gr * sz≤b then (0,0,0)
 else ((if (b - 2 - jr) % sz=0 then 4 else if (b - 2 - jr) % sz=1 then 5 else if (b - 2 - jr) % sz<2+ino / 4 then 6 else 7),(b - 2 - jr) / sz,(b - 2 - jr) % sz)
omit Hh in
theorem Zpa {gr sz ino jr b q:Nat} (F:Fine gr sz ino jr) (hq:q<3) (h1:Wu jr q≤b) (h2:b<Wu jr (q+1)):Oa gr sz ino jr b=((Zl1 jr q).1,0,b - Wu jr q):=by
 obtain⟨g1,g2,g3,g4,g5,g6,g7,g8,g9,g10,g11⟩:=F
 have:q=0∨q=1∨q=2:=by omega
 unfold Oa
 rcases this with rfl|rfl|rfl<;>simp only[Wu,Zl1,Nat.reduceAdd] at h1 h2 ⊢
 ·obtain rfl:b=0:=by omega
  rfl
 ·obtain rfl:b=1:=by omega
  rfl
 ·rw[if_neg (by omega),if_neg (by omega),if_pos (by omega)]
omit Hh in
theorem Zm5 {gr sz ino jr b k q:Nat} (F:Fine gr sz ino jr) (hk:k<gr) (hq:q<4) (h1:Tq sz ino jr k q≤b) (h2:b<Tq sz ino jr k (q+1)):Oa gr sz ino jr b=((Zgz sz ino jr k q).1,k,b - Tq sz ino jr k 0):=by
 obtain⟨g1,g2,g3,g4,g5,g6,g7,g8,g9,g10,g11⟩:=F
 have m1:k * sz+sz≤gr * sz:=by
  have:=Nat.mul_le_mul_right sz (show k+1≤gr by omega)
  rw[Nat.add_mul] at this
  omega
 have e0:Tq sz ino jr k 0=2+jr+k * sz:=rfl
 have r1:2+jr+k * sz≤b∧b<2+jr+k * sz+sz:=by
  have:q=0∨q=1∨q=2∨q=3:=by omega
  rcases this with rfl|rfl|rfl|rfl<;>simp only[Tq,Nat.reduceAdd] at h1 h2<;>omega
 obtain⟨p,hp⟩:∃ p,b=2+jr+k * sz+p:=⟨b - (2+jr+k * sz),by omega⟩
 have hps:p<sz:=by omega
 have d1:b - 2 - jr=p+k * sz:=by omega
 have d2:(b - 2 - jr) / sz=k:=by rw[d1,Nat.add_mul_div_right _ _ (by omega),Nat.div_eq_of_lt hps,Nat.zero_add]
 have d3:(b - 2 - jr) % sz=p:=by rw[d1,Nat.add_mul_mod_self_right,Nat.mod_eq_of_lt hps]
 unfold Oa
 rw[if_neg (by omega),if_neg (by omega),if_neg (by omega),if_neg (by omega),d2,d3,e0]
 have:q=0∨q=1∨q=2∨q=3:=by omega
 rcases this with rfl|rfl|rfl|rfl<;>simp only[Tq,Zgz,Nat.reduceAdd] at h1 h2 ⊢
 ·rw[if_pos (by omega)]; congr 2; omega
 ·rw[if_neg (by omega),if_pos (by omega)]; congr 2; omega
 ·rw[if_neg (by omega),if_neg (by omega),if_pos (by omega)]; congr 2; omega
 ·rw[if_neg (by omega),if_neg (by omega),if_neg (by omega)]; congr 2; omega
end
section
variable (Hh:Hearts K Tryz.prog)
include Hh
theorem Zvw (gr sz ino jr:Nat) (h:Go.Ev.H):Zg 167 [.g (Yw gr sz ino jr)] h (.w (.c (.fn 213 [] [some (h.next,0)]))) (h.new (.row 4 [Yw gr sz ino jr] false)):=by
 refine fnG Hh Tryz.f167 ?_
 iterate 5 (first|apply Zp|apply Yb|(apply Goes.ops2 fits Hh Za; · simp (maxSteps:=9^6) +decide (disch:=first|omega|(simp only[lens]<;>omega)|decide) only [go_sem,Zm,Ze,simprocAttr,Yr,Yw]<;>rfl))
 simp (maxSteps:=9^6) +decide (disch:=first|omega|(simp only[lens]<;>omega)|decide) only [go_sem,Zm,Ze,simprocAttr,Yr,Yw]<;>rfl
set_option maxHeartbeats 4000000 in
theorem Zdu {l pb p4 p5 p6 pg gr sz ino jr b d:Nat} {tl:Zw} (F:Fine gr sz ino jr) (s6:b<9223372036854775808) {h:Go.Ev.H} (W:WCtx l pb p4 p5 p6 pg gr sz ino jr b d tl h) :
  ∃ v h',Zg 213 [.c (.yield l),.c (.ptr pg 0)] h v h'∧((2+jr+gr * sz≤b∧h.next≤h'.next∧∀ m,m<h.next→h'.get m=h.get m)∨WAns l p4 p5 p6 d tl (Oa gr sz ino jr b).1 (Oa gr sz ino jr b).2.1 (Oa gr sz ino jr b).2.2 h h'):=by
 have F':=F
 obtain⟨g1,g2,g3,g4,g5,g6,g7,g8,g9,g10,g11⟩:=F'
 have hg:=W.hg
 have bg:=W.bg
 have bl:=W.bl
 have q1:F9 .i64 (ino:Int) 4=some (.int .i64 ((ino / 4:Nat):Int)):=Nc (b:=4) (by omega) (by omega)
 refine Jd Hh Tryz.f213 ?_
 iterate 8 (first|apply Zp|apply Yk|(apply Goes.ops2 fits Hh Za; · simp (maxSteps:=9^6) +decide (disch:=first|omega|(simp only[lens]<;>omega)|decide) only [go_sem,Ze,simprocAttr,hg,Yw,q1,Z6c,wrP,rdP,read1]<;>rfl))
 refine (Zs9 Hh F s6 3 0 _ _ (by omega) (Nat.zero_le _) (W.move ?_ ?_) ?_ ?_ ?_).mono ?_
 ·simp only[H.Zf,H.Zc]<;>omega
 ·intro m' hm
  rw[Zo (by omega),Yn (by omega)]
 ·simp (decide:=true) only [Zb,reduceIte,Um,List.getElem?_cons_zero]
 ·simp (decide:=true) only [Zb,reduceIte]<;>rfl
 ·simp (decide:=true) only [Zb,reduceIte]<;>rfl
 rintro x ds' ts' h' ⟨rfl,tsk,⟨rfl,y1,y2,y3⟩|⟨rfl,q,y1,y2,y3,y4⟩⟩
 ·have f0:Zi ts' 0=.w (.c (.yield l)):=(tsk 0 (by decide)).trans (by simp (decide:=true) only [Zb,reduceIte,Um,List.getElem?_cons_zero])
  have f1:Zi ts' 1=.w (.c (.ptr pg 0)):=(tsk 1 (by decide)).trans (by simp (decide:=true) only [Zb,reduceIte,Um,List.getElem?_cons_succ,List.getElem?_cons_zero])
  have f3:Zi ts' 3=.w (.c (.int .i64 ((ino / 4:Nat):Int))):=(tsk 3 (by decide)).trans (by simp (decide:=true) only [Zb,reduceIte])
  simp only[H.Zf,H.Zc] at y2 y3
  have y4:∀ m,m<h.next→h'.get m=h.get m:=fun m' hm=>by
   rw[y3 m' (by omega),Zo (by omega),Yn (by omega)]
  have W2:=W.move (by omega) y4
  have hg2:=W2.hg
  iterate 3 (first|apply Zp|apply Yk|(apply Goes.ops2 fits Hh Za; · simp (maxSteps:=9^6) +decide (disch:=first|omega|(simp only[lens]<;>omega)|decide) only [go_sem,Zm,Ze,simprocAttr,f0,f1,f3,hg2,Yw,read1]<;>rfl))
  refine (Zwx Hh F s6 gr 0 _ _ (by omega) (by omega) W2 ?_ ?_ ?_ ?_ ?_).mono ?_
  ·simp (decide:=true) only [Zb,reduceIte,f0]
  ·simp (decide:=true) only [Zb,reduceIte,f1]
  ·simp (decide:=true) only [Zb,reduceIte,f3]
  ·simp (decide:=true) only [Zb,reduceIte]
  ·simp (decide:=true) only [Zb,reduceIte]<;>rfl
  rintro x ds' ts2 h2 ⟨rfl,⟨rfl,z4,z5,z6⟩|⟨rfl,k0,q,z4,z5,z6,z7,z8⟩⟩
  ·
   exact⟨_,_,Zj,.inl ⟨z4,by omega,fun m hm=>(z6 m (by omega)).trans (y4 m hm)⟩⟩
  ·refine⟨_,_,Zj,.inr ?_⟩
   rw[Zm5 F z4 z5 z6 z7]
   exact z8.back (by omega) y4
 ·refine⟨_,_,Zj,.inr ?_⟩
  rw[Zpa F y1 y2 y3]
  exact y4.back (by simp only[H.Zf,H.Zc]<;>omega) (fun m hm=>by rw[Zo (by omega),Yn (by omega)])
theorem Zxo {gr sz ino jr b pb p4 p5 p6 pg:Nat} (F:Fine gr sz ino jr) (s6:b<9223372036854775808) (ts:Zw) (h:Go.Ev.H) (d1:p4≠p5) (d2:p4≠p6) (d3:p5≠p6) (d4:pb≠p4) (d5:pb≠p5) (d6:pb≠p6) (b4:p4<h.next) (b5:p5<h.next) (b6:p6<h.next) (bb:pb<h.next) (bg:pg<h.next)
  (e3:Zi ts 3=.w (.c (.ptr pb 0))) (e4:Zi ts 4=.w (.c (.ptr p4 0))) (e5:Zi ts 5=.w (.c (.ptr p5 0))) (e6:Zi ts 6=.w (.c (.ptr p6 0))) (e16:Zi ts 16=.w (.c (.fn 213 [] [some (pg,0)])))
  (hb:h.get pb=some (.row 1 [[.int .i64 b]] false)) (r4:∃ x,h.get p4=some (.row 1 [[x]] false)) (r5:∃ x,h.get p5=some (.row 1 [[x]] false)) (r6:∃ x,h.get p6=some (.row 1 [[x]] false)) (hg:h.get pg=some (.row 4 [Yw gr sz ino jr] false)) :
  Ya 36 none (q120 [1,1,0,1,2]) [] ts h fun x ds' ts' h'=>ts'=ts∧ds'=[h.next]∧h'.get h.next=some .defers∧((x=.normal∧Oa gr sz ino jr b=(0,0,0)∧∀ m,m<h.next→h'.get m=h.get m) ∨
   (x=.ret∧h'.get p4=some (.row 1 [[.int .u8 (Oa gr sz ino jr b).1]] false)∧h'.get p5=some (.row 1 [[.int .i64 (Oa gr sz ino jr b).2.1]] false)∧h'.get p6=some (.row 1 [[.int .i64 (Oa gr sz ino jr b).2.2]] false)∧∀ m,m<h.next→m≠p4→m≠p5→m≠p6→h'.get m=h.get m)):=by
 have g0:∀ (o:O) m,m<h.next→((h.new .defers).new o).get m=h.get m:=fun o m hm=>by rw[Yn (by rw[H.Zc]; omega),Yn (by omega)]
 have W:WCtx (h.next+1) pb p4 p5 p6 pg gr sz ino jr b h.next ts ((h.new .defers).new (.loop ts 36 [17] (q120 [1,1,0,1,2,5]) (q120 [1,1,0,1,2,6]) .ready none h.next)) :=
  ⟨d1,d2,d3,d4,d5,d6,by omega,by omega,by omega,by omega,by simp only[H.Zc]; omega,by simp only[H.Zc]; omega,by simp only[H.Zc]; omega,by simp only[H.Zc]; omega,by simp only[H.Zc]; omega,by simp only[H.Zc]; omega,e3,e4,e5,e6,
   by rw[Gp (by simp only[H.Zc]<;>omega)],by rw[g0 _ _ bb]; exact hb,by rw[g0 _ _ b4]; exact r4,by rw[g0 _ _ b5]; exact r5,by rw[g0 _ _ b6]; exact r6,by rw[g0 _ _ bg]; exact hg⟩
 have gd:∀ o:O,((h.new .defers).new o).get h.next=some .defers:=fun o=>by rw[Yn (by rw[H.Zc]; omega),Eb]
 rw[Zot]
 refine Goes.Zoz fits Hh (f:=213) (first:=[]) (caps:=[some (pg,0)]) (by simp only[Zx,Z0,e16,asC]) (exE (Zdu Hh F s6 W) ?_)
 rintro v h3 (⟨w1,w2,w3⟩|A)
 ·simp only[H.Zc] at w2 w3
  have hN:Oa gr sz ino jr b=(0,0,0):=by
   obtain⟨g1,g2,g3,g4,g5,g6,g7,g8,g9,g10,g11⟩:=F
   unfold Oa
   rw[if_neg (by omega),if_neg (by omega),if_neg (by omega),if_pos w1]
  refine⟨_,_,_,_,_,_,_,_,(w3 _ (by omega)).trans W.hl,by simp,?_⟩
  show _∧_∧_
  refine⟨rfl,rfl,?_,.inl ⟨rfl,hN,fun m hm=>?_⟩⟩
  ·rw[Zo (by omega),w3 _ (by omega),gd]
  ·rw[Zo (by omega),w3 _ (by omega),g0 _ _ hm]
 ·have kp:=A.keep
  simp only[H.Zc] at kp
  refine⟨_,_,_,_,_,_,_,_,A.hl,by simp,?_⟩
  show _∧_∧_
  refine⟨rfl,rfl,?_,.inr ⟨rfl,?_,?_,?_,fun m hm n4 n5 n6=>?_⟩⟩
  ·rw[Zo (by omega),kp _ (by omega) (by omega) (by omega) (by omega) (by omega),gd]
  ·rw[Zo (by omega),A.r4]
  ·rw[Zo (by omega),A.r5]
  ·rw[Zo (by omega),A.r6]
  ·rw[Zo (by omega),kp _ (by omega) (by omega) n4 n5 n6,g0 _ _ hm]
set_option maxHeartbeats 4000000 in
theorem Zxp {gr sz ino jr:Nat} (F:Fine gr sz ino jr) (h:Go.Ev.H) (b:Nat) (s6:b<9223372036854775808):Zg 120 [.g (Yw gr sz ino jr),.c (.int .i64 b)] h (.tup [.c (.int .u8 ((Oa gr sz ino jr b).1:Nat)),.c (.int .i64 ((Oa gr sz ino jr b).2.1:Nat)),.c (.int .i64 ((Oa gr sz ino jr b).2.2:Nat))]) h:=by
 obtain⟨v,h',c,rfl,hk⟩:∃ v h',Zg 120 [.g (Yw gr sz ino jr),.c (.int .i64 b)] h v h'∧v=.tup [.c (.int .u8 ((Oa gr sz ino jr b).1:Nat)),.c (.int .i64 ((Oa gr sz ino jr b).2.1:Nat)),.c (.int .i64 ((Oa gr sz ino jr b).2.2:Nat))]∧∀ m,m<h.next→h'.get m=h.get m:=by
  refine Jd Hh Tryz.f120 ?_
  iterate 4 (first|apply Zp|(apply Goes.ops2 fits Hh Za; · simp (maxSteps:=9^6) +decide (disch:=first|omega|(simp only[lens]<;>omega)|decide) only [go_sem,Zm,Ze,simprocAttr,Yw,read1,Yr]<;>rfl))
  iterate 5 (first|apply Zp|apply Z6|((first|apply Goes.Zn|apply Goes.ops2 fits Hh (U5 Za (Zjj Hh F))); · simp (maxSteps:=9^6) +decide (disch:=first|omega|(simp only[lens]<;>omega)|decide) only [go_sem,Zm,Ze,simprocAttr,Yw,read1,Yr]<;>rfl))
  iterate 2 (first|apply Yk|(apply Goes.ops2 fits Hh (U5 Za (Zvw Hh gr sz ino jr)); · simp (maxSteps:=9^6) +decide (disch:=first|omega|(simp only[lens]<;>omega)|decide) only [go_sem,Zm,Ze,simprocAttr,Yw,read1,Yr]<;>rfl))
  refine (Zxo Hh F s6 _ _ (pb:=h.next+1) (p4:=h.next+1+1) (p5:=h.next+1+1+1) (p6:=h.next+1+1+1+1) (pg:=h.next+1+1+1+1+1) (by omega) (by omega) (by omega) (by omega) (by omega) (by omega) (by simp only[H.Zc]<;>omega) (by simp only[H.Zc]<;>omega) (by simp only[H.Zc]<;>omega) (by simp only[H.Zc]<;>omega) (by simp only[H.Zc]<;>omega) Zj Zj Zj Zj Zj Zj ⟨_,by exact Zj⟩ ⟨_,by exact Zj⟩ ⟨_,by exact Zj⟩ Zj).mono ?_
  rintro x ds' ts' h' ⟨rfl,rfl,gd,⟨rfl,hN,kp⟩|⟨rfl,r4,r5,r6,kp⟩⟩
  ·simp only[H.Zc] at gd kp
   have k4:=(kp (h.next+1+1) (by omega)).trans (show _=some (.row 1 [[.int .u8 0]] false) by simp (maxSteps:=9^6) +decide (disch:=first|omega|(simp only[lens]<;>omega)|decide) only [go_sem,Zm,Ze,simprocAttr])
   have k5:=(kp (h.next+1+1+1) (by omega)).trans (show _=some (.row 1 [[.int .i64 0]] false) by simp (maxSteps:=9^6) +decide (disch:=first|omega|(simp only[lens]<;>omega)|decide) only [go_sem,Zm,Ze,simprocAttr])
   have k6:=(kp (h.next+1+1+1+1) (by omega)).trans (show _=some (.row 1 [[.int .i64 0]] false) by simp (maxSteps:=9^6) +decide (disch:=first|omega|(simp only[lens]<;>omega)|decide) only [go_sem,Zm,Ze,simprocAttr])
   have Jf:=Oz @k4 @k5 @k6 @gd
   iterate 3 (first|apply Zp|apply Yb|refine Zy Hh Za Zdg ?_)
   refine⟨_,_,Yi,by rw[hN]<;>rfl,fun m hm=>?_⟩
   simp (maxSteps:=9^6) +decide (disch:=first|omega|(simp only[lens]<;>omega)|decide) only [go_sem,Zm,Ze,simprocAttr]
   rw[kp m (by omega)]
   simp (maxSteps:=9^6) +decide (disch:=first|omega|(simp only[lens]<;>omega)|decide) only [go_sem,Zm,Ze,simprocAttr]
  ·simp only[H.Zc] at gd kp
   refine⟨_,_,(by have Jf:=Oz @gd @r4 @r5 @r6; exact Yi),rfl,fun m hm=>?_⟩
   simp (maxSteps:=9^6) +decide (disch:=first|omega|(simp only[lens]<;>omega)|decide) only [go_sem,Zm,Ze,simprocAttr]
   rw[kp m (by omega) (by omega) (by omega) (by omega)]
   simp (maxSteps:=9^6) +decide (disch:=first|omega|(simp only[lens]<;>omega)|decide) only [go_sem,Zm,Ze,simprocAttr]
 exact Zv.quiet c rfl hk
theorem Z1j {gr sz ino jr:Nat} (F:Fine gr sz ino jr) (h:Go.Ev.H) (z:Int) (hz:z<0):Zg 120 [.g (Yw gr sz ino jr),.c (.int .i64 z)] h (.tup [.c (.int .u8 0),.c (.int .i64 0),.c (.int .i64 0)]) h:=by
 obtain⟨v,h',c,rfl,hk⟩:∃ v h',Zg 120 [.g (Yw gr sz ino jr),.c (.int .i64 z)] h v h'∧v=.tup [.c (.int .u8 0),.c (.int .i64 0),.c (.int .i64 0)]∧∀ m,m<h.next→h'.get m=h.get m:=by
  refine Jd Hh Tryz.f120 ?_
  iterate 4 (first|apply Zp|(apply Goes.ops2 fits Hh Za; · simp (maxSteps:=9^6) +decide (disch:=first|omega|(simp only[lens]<;>omega)|decide) only [go_sem,Zm,Ze,simprocAttr,Yw,read1,Yr,Z9]<;>rfl))
  iterate 5 (first|apply Zp|apply Yb|((first|apply Goes.Zn|apply Goes.ops2 fits Hh (U5 Za (Zjj Hh F))); · simp (maxSteps:=9^6) +decide (disch:=first|omega|(simp only[lens]<;>omega)|decide) only [go_sem,Zm,Ze,simprocAttr,Yw,read1,Yr,Z9]<;>rfl))
  refine⟨_,_,Z2g,rfl,fun m hm=>by exact Jg⟩
 exact Zv.quiet c rfl hk
end
end Go.Proofs.YtdmendgkbikkaaaGreatDoor
