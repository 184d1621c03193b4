/- A geometry that may be. -/
import Derived.Test.YteiljiijagmonaaGreatDoorSli
set_option maxRecDepth 100000
set_option linter.unusedSimpArgs false
set_option linter.unusedVariables false
set_option linter.unusedSectionVars false
namespace Go.Proofs.YteiljiijagmonaaGreatDoor
open Go.Ev
structure Fine (gr sz ino jr:Nat):Prop where
 gr1:1<=gr
 gr4:gr<=4
 sz1:16<=sz
 sz2:sz<=512
 ino1:4<=ino
 ino2:ino<=64
 ino4:ino % 4=0
 jr1:40<=jr
 jr2:jr<=256
 fit:3+ino / 4<=sz
 all:2+jr+gr * sz<=2048
def Jr (gr sz ino jr:Nat):List C:=[.int .i64 gr,.int .i64 sz,.int .i64 ino,.int .i64 jr]
theorem N8 {j k b:Nat} (h:j<k):j * b+b<=k * b:=by
 have:=Nat.mul_le_mul_right b h
 rwa [Nat.succ_mul] at this
theorem ty4:K.types.get 4=some ti4:=kR
theorem sz4:ti4.size=1:=by rfl
theorem ag4:ti4.agg=false:=by rfl
theorem de4:ti4.desc=.bool:=by rfl
theorem ze4:ti4.zero=(.c (.bool false)):=by rfl
theorem by4:ti4.bytes=1:=by rfl
theorem ty52:K.types.get 52=some ti52:=kR
theorem sz52:ti52.size=4:=by rfl
theorem ag52:ti52.agg=true:=by rfl
theorem fo52_0:Zm K 52 0=some (0,ti3):=kR
theorem fo52_1:Zm K 52 1=some (1,ti3):=kR
theorem fo52_2:Zm K 52 2=some (2,ti3):=kR
theorem fo52_3:Zm K 52 3=some (3,ti3):=kR
theorem bu52 (ps:List (Nat × W)):Yg K 52 (some ps)=gW (Z8 K 52 ps ti52.zero.cells):=kR
theorem ze52:ti52.zero=(.g ([.int .i64 0,.int .i64 0,.int .i64 0,.int .i64 0])):=by rfl
theorem by52:ti52.bytes=32:=by rfl
attribute [go_sem] ty3 sz3 ag3 de3 ze3 by3 ke3 ty4 sz4 ag4 de4 ze4 by4 ty52 sz52 ag52 fo52_0 fo52_1 fo52_2 fo52_3 bu52 ze52 by52
theorem rs51:Tryz.f51.results.toList=[.tmp 2]:=rfl
theorem rs102:Tryz.f102.results.toList=[.tmp 2]:=rfl
attribute [go_sem] rs51 rs102
section
variable (Hh:Hearts K Tryz.prog)
include Hh
theorem Zmf {gr sz ino jr:Nat} (F:Fine gr sz ino jr) (h:Hq):Zi 51 [.g (Jr gr sz ino jr)] h (.w (.c (.bool true))) h:=by
 obtain⟨g1,g2,g3,g4,g5,g6,g7,g8,g9,g10,g11⟩:=F
 have gm:(gr:Int) * (sz:Int)=((gr * sz:Nat):Int):=rfl
 obtain⟨v,h',c,rfl,hk⟩:∃ v h',Zi 51 [.g (Jr gr sz ino jr)] h v h'/\v=.w (.c (.bool true))/\∀ m,m<h.next->h'.get m=h.get m:=by
  refine Y0 Hh Tryz.f51 ?_
  repeat (first|apply Zu|apply Jc|apply Ye|apply Yc|((first|apply Goes.Zl|apply Goes.ops2 fits Hh Za); · simp (maxSteps:=9^6) +decide (disch:=first|exact dZ|fail) only [go_sem,Zk,Zh,simprocAttr,Jr,gm,read1]<;>rfl))
  refine⟨_,_,Zf,rfl,fun m hm=>?_⟩
  simp (maxSteps:=9^6) +decide (disch:=first|exact dZ|fail) only [go_sem,Zk,Zh,simprocAttr]
 exact Zy.quiet c rfl hk
theorem Zv7 {gr sz ino jr:Nat} (F:Fine gr sz ino jr) (h:Hq):Zi 102 [.g (Jr gr sz ino jr)] h (.w (.c (.int .i64 ((2+jr+gr * sz:Nat):Int)))) h:=by
 have F':=F
 obtain⟨g1,g2,g3,g4,g5,g6,g7,g8,g9,g10,g11⟩:=F'
 have gm:(gr:Int) * (sz:Int)=((gr * sz:Nat):Int):=rfl
 have c1:=Zmf Hh F (h.new (.row 4 [Jr gr sz ino jr] false))
 obtain⟨v,h',c,rfl,hk⟩:∃ v h',Zi 102 [.g (Jr gr sz ino jr)] h v h'/\v=.w (.c (.int .i64 ((2+jr+gr * sz:Nat):Int)))/\∀ m,m<h.next->h'.get m=h.get m:=by
  refine Y0 Hh Tryz.f102 ?_
  iterate 4 (first|(apply Goes.ops2 fits Hh Za; · simp (maxSteps:=9^6) +decide (disch:=first|exact dZ|fail) only [go_sem,Zk,Zh,simprocAttr,Jr,gm,read1]<;>rfl)|apply gS)
  iterate 6 (first|((first|apply Goes.Zl|apply Goes.ops2 fits Hh (Zp Za c1)); · simp (maxSteps:=9^6) +decide (disch:=first|exact dZ|fail) only [go_sem,Zk,Zh,simprocAttr,Z4,Jr,gm,read1]<;>rfl)|apply gS)
  refine⟨_,_,Zf,rfl,fun m hm=>?_⟩
  simp (maxSteps:=9^6) +decide (disch:=first|exact dZ|fail) only [go_sem,Zk,Zh,simprocAttr]
 exact Zy.quiet c rfl hk
end
theorem ty5:K.types.get 5=some ti5:=kR
theorem sz5:ti5.size=1:=by rfl
theorem ag5:ti5.agg=false:=by rfl
theorem de5:ti5.desc=(.int .u8):=by rfl
theorem ze5:ti5.zero=(.c (.int .u8 0)):=by rfl
theorem by5:ti5.bytes=1:=by rfl
theorem ke5 (k:IntKind) (n:Int):Fe K 20 5 (.c (.int k n))=true:=kR
theorem ty275:K.types.get 275=some ti275:=kR
theorem sz275:ti275.size=5:=by rfl
theorem ag275:ti275.agg=true:=by rfl
theorem fo275_0:Zm K 275 0=some (0,ti5):=kR
theorem fo275_1:Zm K 275 1=some (1,ti3):=kR
theorem fo275_2:Zm K 275 2=some (2,ti3):=kR
theorem fo275_3:Zm K 275 3=some (3,ti3):=kR
theorem fo275_4:Zm K 275 4=some (4,ti3):=kR
theorem bu275 (ps:List (Nat × W)):Yg K 275 (some ps)=gW (Z8 K 275 ps ti275.zero.cells):=kR
theorem ze275:ti275.zero=(.g ([.int .u8 0,.int .i64 0,.int .i64 0,.int .i64 0,.int .i64 0])):=by rfl
theorem by275:ti275.bytes=40:=by rfl
theorem ty316:K.types.get 316=some ti316:=kR
theorem sz316:ti316.size=15:=by rfl
theorem ag316:ti316.agg=true:=by rfl
theorem de316:ti316.desc=(.array 3 275):=by rfl
theorem ze316:ti316.zero=(.g ([.int .u8 0,.int .i64 0,.int .i64 0,.int .i64 0,.int .i64 0,.int .u8 0,.int .i64 0,.int .i64 0,.int .i64 0,.int .i64 0,.int .u8 0,.int .i64 0,.int .i64 0,.int .i64 0,.int .i64 0])):=by rfl
theorem by316:ti316.bytes=120:=by rfl
theorem ty317:K.types.get 317=some ti317:=kR
theorem sz317:ti317.size=20:=by rfl
theorem ag317:ti317.agg=true:=by rfl
theorem de317:ti317.desc=(.array 4 275):=by rfl
theorem ze317:ti317.zero=(.g ([.int .u8 0,.int .i64 0,.int .i64 0,.int .i64 0,.int .i64 0,.int .u8 0,.int .i64 0,.int .i64 0,.int .i64 0,.int .i64 0,.int .u8 0,.int .i64 0,.int .i64 0,.int .i64 0,.int .i64 0,.int .u8 0,.int .i64 0,.int .i64 0,.int .i64 0,.int .i64 0])):=by rfl
theorem by317:ti317.bytes=160:=by rfl
attribute [go_sem] ty5 sz5 ag5 de5 ze5 by5 ke5 ty275 sz275 ag275 fo275_0 fo275_1 fo275_2 fo275_3 fo275_4 bu275 ze275 by275 ty316 sz316 ag316 de316 ze316 by316 ty317 sz317 ag317 de317 ze317 by317
noncomputable def q118 (p:Lq):Code:=piece p (Ug Tryz.f118)
theorem Zr2:q118 [1,1,0,1,2]=.rangeFunc (.tmp 16) #[17] (q118 [1,1,0,1,2,5]) (q118 [1,1,0,1,2,6]):=kR
theorem Zps:q118 [1,1,0,1,2,5]=.region 4 (Z7q (q118 [1,1,0,1,2,5])) false:=kR
theorem Zpt:q118 [1,1,0,1,2,6]=.block 1 (q118 [1,1,0,1,2,6,2]):=kR
noncomputable def q211 (p:Lq):Code:=piece p (Ug Tryz.f211)
theorem rs118:Tryz.f118.results.toList=[.cell 4 5,.cell 5 3,.cell 6 3]:=rfl
theorem rs165:Tryz.f165.results.toList=[.tmp 2]:=rfl
theorem rs211:Tryz.f211.results.toList=[]:=rfl
attribute [go_sem] rs118 rs165 rs211
def Bo (kk gp fr sz pl:Nat):List C:=[.int .u8 kk,.int .i64 gp,.int .i64 fr,.int .i64 sz,.int .i64 pl]
section
variable (Hh:Hearts K Tryz.prog)
include Hh
theorem Yah (l:Nat) (ts:Zw) (kk gp fr sz pl:Nat) (h:Hq):Z7 36 (some l) (q118 [1,1,0,1,2,5]) [] (ts.set 17 (.w (.g (Bo kk gp fr sz pl)))) h fun x ds' ts' h'=>x=.normal/\ds'=[]/\(∀ s,s<=6->Ze ts' s=Ze ts s)/\Ze ts' 7=.w (.c (.ptr h.next 0))/\h'.next=h.next+1/\h'.get h.next=some (.row 5 [Bo kk gp fr sz pl] false)/\∀ m,m≠h.next->h'.get m=h.get m:=by
 (apply Goes.ops2 fits Hh Za; · simp (maxSteps:=9^6) +decide (disch:=first|exact dZ|fail) only [go_sem,Zk,Zh,simprocAttr,Bo]<;>rfl)
 refine⟨rfl,rfl,fun s hs=>?_,?_,rfl,?_,fun m hm=>?_⟩
 ·simp (decide:=true) only [Yh hs]
 ·exact Zf
 ·simp (maxSteps:=9^6) +decide (disch:=first|exact dZ|fail) only [go_sem,Zk,Zh,simprocAttr,Bo]
 ·exact Zf
set_option maxHeartbeats 4000000 in
theorem Yai (l:Nat) (ts:Zw) (pb p4 p5 p6 q kk gp fr sz pl b:Nat) (h:Hq) (x4 x5 x6:C) (s1:kk<256) (s2:gp<1000000) (s3:fr<1000000) (s4:sz<1000000) (s5:pl<1000000) (s6:b<9223372036854775808) (s7:fr<=b)
  (d1:p4≠p5) (d2:p4≠p6) (d3:p5≠p6) (d4:pb≠p4) (d5:pb≠p5) (d6:pb≠p6) (d7:q≠p4) (d8:q≠p5) (d9:q≠p6)
  (e3:Ze ts 3=.w (.c (.ptr pb 0))) (e4:Ze ts 4=.w (.c (.ptr p4 0))) (e5:Ze ts 5=.w (.c (.ptr p5 0))) (e6:Ze ts 6=.w (.c (.ptr p6 0))) (e7:Ze ts 7=.w (.c (.ptr q 0)))
  (hb:h.get pb=some (.row 1 [[.int .i64 b]] false)) (hq:h.get q=some (.row 5 [Bo kk gp fr sz pl] false)) (r4:h.get p4=some (.row 1 [[x4]] false)) (r5:h.get p5=some (.row 1 [[x5]] false)) (r6:h.get p6=some (.row 1 [[x6]] false)) :
  Z7 36 (some l) (q118 [1,1,0,1,2,6]) [] ts h fun x _ _ h'=>h'.next=h.next/\(b<fr+sz->x=.ret/\h'.get p4=some (.row 1 [[.int .u8 kk]] false)/\h'.get p5=some (.row 1 [[.int .i64 gp]] false)/\h'.get p6=some (.row 1 [[.int .i64 ((pl+b - fr:Nat):Int)]] false))/\(fr+sz<=b->x=.normal/\h'=h)/\∀ m,m≠p4->m≠p5->m≠p6->h'.get m=h.get m:=by
 have w9:((pl:Int)+(b:Int)) - (fr:Int)=((pl+b - fr:Nat):Int):=oM
 by_cases hlt:b<fr+sz
 ·
  iterate 7 (first|((first|apply Goes.Zl|apply Goes.ops2 fits Hh Za); · simp (maxSteps:=9^6) +decide (disch:=first|exact dZ|fail) only [go_sem,Zk,Zh,simprocAttr,e3,e4,e5,e6,e7,hb,hq,r4,r5,r6,Bo,read1,w9,Z5]<;>rfl)|(apply Goes.drawn2 fits Hh Za kR; · simp (maxSteps:=9^6) +decide (disch:=first|exact dZ|fail) only [go_sem,Zk,Zh,simprocAttr,drG,e3,e4,e5,e6,e7,hb,hq,r4,r5,r6,Bo,read1,w9,Z5]<;>rfl)|apply gS)
  refine⟨rfl,fun _=>⟨rfl,?_,?_,?_⟩,fun h9=>by omega,fun m h1 h2 h3=>?_⟩
  ·exact Zf
  ·exact Zf
  ·exact Zf
  ·exact Zf
 ·
  iterate 5 (first|((first|apply Goes.Zl|apply Goes.ops2 fits Hh Za); · simp (maxSteps:=9^6) +decide (disch:=first|exact dZ|fail) only [go_sem,Zk,Zh,simprocAttr,e3,e4,e5,e6,e7,hb,hq,r4,r5,r6,Bo,read1]<;>rfl)|apply gS)
  exact⟨rfl,fun h9=>by omega,fun _=>⟨rfl,rfl⟩,fun _ _ _ _=>rfl⟩
theorem Zw8 (l:Nat) (ts:Zw) (pb p4 p5 p6 kk gp fr sz pl b d:Nat) (h:Hq) (x4 x5 x6:C) (s1:kk<256) (s2:gp<1000000) (s3:fr<1000000) (s4:sz<1000000) (s5:pl<1000000) (s6:b<9223372036854775808) (s7:fr<=b)
  (d1:p4≠p5) (d2:p4≠p6) (d3:p5≠p6) (d4:pb≠p4) (d5:pb≠p5) (d6:pb≠p6) (l4:l≠p4) (l5:l≠p5) (l6:l≠p6) (lb:l≠pb) (b4:p4<h.next) (b5:p5<h.next) (b6:p6<h.next) (bb:pb<h.next) (bl:l<h.next)
  (e3:Ze ts 3=.w (.c (.ptr pb 0))) (e4:Ze ts 4=.w (.c (.ptr p4 0))) (e5:Ze ts 5=.w (.c (.ptr p5 0))) (e6:Ze ts 6=.w (.c (.ptr p6 0)))
  (hl:h.get l=some (.loop ts 36 [17] (q118 [1,1,0,1,2,5]) (q118 [1,1,0,1,2,6]) .ready none d))
  (hb:h.get pb=some (.row 1 [[.int .i64 b]] false)) (r4:h.get p4=some (.row 1 [[x4]] false)) (r5:h.get p5=some (.row 1 [[x5]] false)) (r6:h.get p6=some (.row 1 [[x6]] false)) :
  ∃ E h' r,Sound K Tryz.prog E/\Gc E l (some [.g (Bo kk gp fr sz pl)]) h (h.get l)=some (.val (.w (.c (.bool r))) h')/\h.next<=h'.next /\
   (fr+sz<=b->r=true/\∀ m,m<h.next->h'.get m=h.get m) /\
   (b<fr+sz->r=false/\h'.get l=some (.loop ts 36 [17] (q118 [1,1,0,1,2,5]) (q118 [1,1,0,1,2,6]) .done (some .ret) d)/\h'.get p4=some (.row 1 [[.int .u8 kk]] false)/\h'.get p5=some (.row 1 [[.int .i64 gp]] false)/\h'.get p6=some (.row 1 [[.int .i64 ((pl+b - fr:Nat):Int)]] false)/\∀ m,m<h.next->m≠l->m≠p4->m≠p5->m≠p6->h'.get m=h.get m):=by
 obtain⟨xa,ds1,ts1,h1,kA,rfl,rfl,t1,t7,n1,g1,f1⟩:=Yah Hh l ts kk gp fr sz pl h
 have q1:∀ m,m<h.next->m≠l->(h1.put l (.loop ts 36 [17] (q118 [1,1,0,1,2,5]) (q118 [1,1,0,1,2,6]) .busy none d)).get m=h.get m:=fun m hm hml=>by rw[Zd hml,f1 m oM]
 have gl:h1.get l=some (.loop ts 36 [17] (q118 [1,1,0,1,2,5]) (q118 [1,1,0,1,2,6]) .ready none d):=by rw[f1 l oM]; exact hl
 obtain⟨xb,ds2,ts2,h2,kB,n2,st,go,f2⟩:=Yai Hh l ts1 pb p4 p5 p6 h.next kk gp fr sz pl b (h1.put l (.loop ts 36 [17] (q118 [1,1,0,1,2,5]) (q118 [1,1,0,1,2,6]) .busy none d)) x4 x5 x6 s1 s2 s3 s4 s5 s6 s7 d1 d2 d3 d4 d5 d6 oM oM oM
  ((t1 3 dM).trans e3) ((t1 4 dM).trans e4) ((t1 5 dM).trans e5) ((t1 6 dM).trans e6) t7 ((q1 pb bb (Ne.symm lb)).trans hb) (by rw[Zd oM]; exact g1) ((q1 p4 b4 (Ne.symm l4)).trans r4) ((q1 p5 b5 (Ne.symm l5)).trans r5) ((q1 p6 b6 (Ne.symm l6)).trans r6)
 have hl2:h2.get l=some (.loop ts 36 [17] (q118 [1,1,0,1,2,5]) (q118 [1,1,0,1,2,6]) .busy none d):=by rw[f2 l l4 l5 l6]; exact Zx ..
 have S:=Bt (Bt Za kB) kA
 refine⟨_,_,_,S,Lu hl (by simp only[Uk]; rfl) (Eh ..) gl (Wl (fun e=>?_) |>.trans (Eh ..)) hl2,?_,fun h9=>?_,fun h9=>?_⟩
 ·have e1:=(Task.code.inj e).1
  rw[Zpt,Zps] at e1
  cases e1
 ·rw[H.Zb,n2,H.Zb,n1]; omega
 ·obtain⟨rfl,rfl⟩:=go h9
  refine⟨rfl,fun m hm=>?_⟩
  by_cases e:m=l
  ·subst e; rw[Zx,hl]; rfl
  ·rw[Zd e,q1 m hm e]
 ·obtain⟨rfl,k4,k5,k6⟩:=st h9
  refine⟨rfl,Zx ..,?_,?_,?_,fun m hm a1 a2 a3 a4=>?_⟩
  ·rw[Zd (Ne.symm l4)]; exact k4
  ·rw[Zd (Ne.symm l5)]; exact k5
  ·rw[Zd (Ne.symm l6)]; exact k6
  ·rw[Zd a1,f2 m a2 a3 a4,q1 m hm a1]
structure WCtx (l pb p4 p5 p6 pg gr sz ino jr b d:Nat) (ts:Zw) (h:Hq):Prop where
 d1:p4≠p5
 d2:p4≠p6
 d3:p5≠p6
 d4:pb≠p4
 d5:pb≠p5
 d6:pb≠p6
 l4:l≠p4
 l5:l≠p5
 l6:l≠p6
 lb:l≠pb
 b4:p4<h.next
 b5:p5<h.next
 b6:p6<h.next
 bb:pb<h.next
 bl:l<h.next
 bg:pg<h.next
 e3:Ze ts 3=.w (.c (.ptr pb 0))
 e4:Ze ts 4=.w (.c (.ptr p4 0))
 e5:Ze ts 5=.w (.c (.ptr p5 0))
 e6:Ze ts 6=.w (.c (.ptr p6 0))
 hl:h.get l=some (.loop ts 36 [17] (q118 [1,1,0,1,2,5]) (q118 [1,1,0,1,2,6]) .ready none d)
 hb:h.get pb=some (.row 1 [[.int .i64 b]] false)
 r4:∃ x,h.get p4=some (.row 1 [[x]] false)
 r5:∃ x,h.get p5=some (.row 1 [[x]] false)
 r6:∃ x,h.get p6=some (.row 1 [[x]] false)
 hg:h.get pg=some (.row 4 [Jr gr sz ino jr] false)
omit Hh in
theorem WCtx.move {l pb p4 p5 p6 pg gr sz ino jr b d:Nat} {ts:Zw} {h h':Hq} (W:WCtx l pb p4 p5 p6 pg gr sz ino jr b d ts h) (hn:h.next<=h'.next) (k:∀ m,m<h.next->h'.get m=h.get m):WCtx l pb p4 p5 p6 pg gr sz ino jr b d ts h':=by
 obtain⟨d1,d2,d3,d4,d5,d6,l4,l5,l6,lb,b4,b5,b6,bb,bl,bg,e3,e4,e5,e6,hl,hb,r4,r5,r6,hg⟩:=W
 exact⟨d1,d2,d3,d4,d5,d6,l4,l5,l6,lb,oM,oM,oM,oM,oM,oM,e3,e4,e5,e6,(k l bl).trans hl,(k pb bb).trans hb,by rw[k p4 b4]; exact r4,by rw[k p5 b5]; exact r5,by rw[k p6 b6]; exact r6,(k pg bg).trans hg⟩
structure WAns (l p4 p5 p6 d:Nat) (ts:Zw) (kk gp pl:Nat) (h0 h:Hq):Prop where
 next:h0.next<=h.next
 hl:h.get l=some (.loop ts 36 [17] (q118 [1,1,0,1,2,5]) (q118 [1,1,0,1,2,6]) .done (some .ret) d)
 r4:h.get p4=some (.row 1 [[.int .u8 kk]] false)
 r5:h.get p5=some (.row 1 [[.int .i64 gp]] false)
 r6:h.get p6=some (.row 1 [[.int .i64 pl]] false)
 keep:∀ m,m<h0.next->m≠l->m≠p4->m≠p5->m≠p6->h.get m=h0.get m
omit Hh in
theorem WAns.back {l p4 p5 p6 d:Nat} {ts:Zw} {kk gp pl:Nat} {h0 h1 h:Hq} (A:WAns l p4 p5 p6 d ts kk gp pl h1 h) (hn:h0.next<=h1.next) (k:∀ m,m<h0.next->h1.get m=h0.get m):WAns l p4 p5 p6 d ts kk gp pl h0 h :=
 ⟨Nat.le_trans hn A.next,A.hl,A.r4,A.r5,A.r6,fun m hm a b c e=>(A.keep m (Nat.lt_of_lt_of_le hm hn) a b c e).trans (k m hm)⟩
theorem WCtx.round {l pb p4 p5 p6 pg gr sz ino jr b d:Nat} {ts:Zw} {h:Hq} (W:WCtx l pb p4 p5 p6 pg gr sz ino jr b d ts h) (kk gp fr sz' pl:Nat) (s1:kk<256) (s2:gp<1000000) (s3:fr<1000000) (s4:sz'<1000000) (s5:pl<1000000) (s6:b<9223372036854775808) (s7:fr<=b) :
  ∃ E h' r,Sound K Tryz.prog E/\Gc E l (some [.g (Bo kk gp fr sz' pl)]) h (some (.loop ts 36 [17] (q118 [1,1,0,1,2,5]) (q118 [1,1,0,1,2,6]) .ready none d))=some (.val (.w (.c (.bool r))) h') /\
   (fr+sz'<=b->r=true/\h.next<=h'.next/\∀ m,m<h.next->h'.get m=h.get m)/\(b<fr+sz'->r=false/\WAns l p4 p5 p6 d ts kk gp (pl+b - fr) h h'):=by
 obtain⟨d1,d2,d3,d4,d5,d6,l4,l5,l6,lb,b4,b5,b6,bb,bl,bg,e3,e4,e5,e6,hl,hb,⟨x4,r4⟩,⟨x5,r5⟩,⟨x6,r6⟩,hg⟩:=W
 obtain⟨E,h',r,S,rnd,n,go,st⟩:=Zw8 Hh l ts pb p4 p5 p6 kk gp fr sz' pl b d h x4 x5 x6 s1 s2 s3 s4 s5 s6 s7 d1 d2 d3 d4 d5 d6 l4 l5 l6 lb b4 b5 b6 bb bl e3 e4 e5 e6 hl hb r4 r5 r6
 rw[hl] at rnd
 refine⟨E,h',r,S,rnd,fun h9=>⟨(go h9).1,n,(go h9).2⟩,fun h9=>?_⟩
 obtain⟨rr,k1,k2,k3,k4,k5⟩:=st h9
 exact⟨rr,n,k1,k2,k3,k4,k5⟩
def Zo1 (jr:Nat):Nat->Nat × Nat × Nat × Nat × Nat
 | 0=>(1,0,0,1,0)
 | 1=>(2,0,1,1,0)
 | _=>(3,0,2,jr,0)
def Z5q (jr:Nat):List C:=[.int .u8 1,.int .i64 0,.int .i64 0,.int .i64 1,.int .i64 0,.int .u8 2,.int .i64 0,.int .i64 1,.int .i64 1,.int .i64 0,.int .u8 3,.int .i64 0,.int .i64 2,.int .i64 jr,.int .i64 0]
def Zuw (p:Nat × Nat × Nat × Nat × Nat):List C:=Bo p.1 p.2.1 p.2.2.1 p.2.2.2.1 p.2.2.2.2
def Zbm (jr:Nat):Nat->Nat
 | 0=>0
 | 1=>1
 | 2=>2
 | _=>2+jr
theorem Zwq {l pb p4 p5 p6 pg gr sz ino jr b d:Nat} {tl:Zw} (F:Fine gr sz ino jr) (s6:b<9223372036854775808):∀ (k i:Nat) (ts:Zw) (h:Hq),i+k=3->Zbm jr i<=b->WCtx l pb p4 p5 p6 pg gr sz ino jr b d tl h->Ze ts 0=.w (.c (.yield l))->Ze ts 21=.w (.g (Z5q jr))->Ze ts 22=.w (.c (.int .i64 i)) ->
  Z7 79 none (q211 [1,1,0,1,2]) [] ts h fun x ds' ts' h'=>ds'=[]/\(∀ s,s<=3->Ze ts' s=Ze ts s)/\((x=.exit 0/\2+jr<=b/\h.next<=h'.next/\∀ m,m<h.next->h'.get m=h.get m) \/
   (x=.ret/\∃ q,q<3/\Zbm jr q<=b/\b<Zbm jr (q+1)/\WAns l p4 p5 p6 d tl (Zo1 jr q).1 0 (b - Zbm jr q) h h')):=by
 obtain⟨g1,g2,g3,g4,g5,g6,g7,g8,g9,g10,g11⟩:=F
 intro k
 induction k with
 | zero =>
  intro i ts h hi hbe W e0 e21 e22
  obtain rfl:i=3:=oM
  have Jf:=@e22
  iterate 6 (first|refine Goes.Zl Zn ?_|refine Zr Hh Za Zn ?_|apply gS)
  refine⟨rfl,fun s hs=>?_,.inl ⟨rfl,hbe,Nat.le_refl _,fun _ _=>rfl⟩⟩
  simp (decide:=true) only [Yh hs]
 | succ k ih =>
  intro i ts h hi hbe W e0 e21 e22
  obtain⟨kk,gp,fr,sz',pl,hP⟩:∃ kk gp fr sz' pl,Zo1 jr i=(kk,gp,fr,sz',pl):=⟨_,_,_,_,_,rfl⟩
  have hi3:i=0\/i=1\/i=2:=oM
  have hx:Zgf K (some ti316) (Z5q jr) (some i)=some (.g (Bo kk gp fr sz' pl))/\kk<256/\gp=0/\fr=Zbm jr i/\fr+sz'=Zbm jr (i+1)/\pl=0/\fr<1000000/\sz'<1000000:=by
   rcases hi3 with rfl|rfl|rfl<;>(simp only[Zo1,Prod.mk.injEq] at hP; obtain⟨rfl,rfl,rfl,rfl,rfl⟩:=hP; exact⟨kR,oM,rfl,rfl,rfl,rfl,oM,oM⟩)
  obtain⟨idx,k1,rfl,k3,k4,rfl,k6,k7⟩:=hx
  have W2:=W.move (h':=(h.new (.row 5 [[.int .u8 0,.int .i64 0,.int .i64 0,.int .i64 0,.int .i64 0]] false)).put h.next (.row 5 [Bo kk 0 fr sz' 0] false)) (by rw[H.Zb,H.Zc]; omega) (fun m hm=>by rw[Zd oM,Yi oM])
  obtain⟨E,h2,r,S,rnd,go,st⟩:=WCtx.round Hh W2 kk 0 fr sz' 0 k1 oM k6 k7 oM s6 oM
  have hl:=W.hl
  have bl:=W.bl
  have rp:Zk 5 [Bo kk 0 fr sz' 0] 0 5=some (Bo kk 0 fr sz' 0):=rfl
  have lp:(Bo kk 0 fr sz' 0).length=5:=rfl
  have wp:Z5 5 [[.int .u8 0,.int .i64 0,.int .i64 0,.int .i64 0,.int .i64 0]] 0 (Bo kk 0 fr sz' 0)=some [Bo kk 0 fr sz' 0]:=rfl
  by_cases hc:fr+sz'<=b
  ·obtain⟨rfl,n2,q2⟩:=go hc
   have q3:∀ m,m<h.next->h2.get m=h.get m:=fun m hm=>by
    rw[q2 m (by rw[H.Zb,H.Zc]; omega),Zd oM,Yi oM]
   rw[H.Zb,H.Zc] at n2
   have Jf:=Yw @e0 @e21 @e22 @hl @idx @rp @lp @wp @rnd
   iterate 11 (first|refine Goes.Zl Gs ?_|refine Zr Hh Za Gs ?_|apply gS)
   iterate 4 (first|refine Goes.Zl Gs ?_|refine Zr Hh S Gs ?_|apply gS)
   show Z7 79 none (q211 [1,1,0,1,2]) _ _ _ _
   refine (ih (i+1) _ h2 oM oM (W.move oM q3) ?_ ?_ ?_).mono ?_
   ·exact tZ e0
   ·exact tZ e21
   ·exact tX
   ·rintro x ds' ts' h' ⟨z1,z2,z3⟩
    refine⟨z1,fun s hs=>(z2 s hs).trans (by simp (decide:=true) only [Yh hs]),?_⟩
    rcases z3 with ⟨rfl,y1,y2,y3⟩|⟨rfl,q,y1,y2,y3,y4⟩
    ·exact .inl ⟨rfl,y1,oM,fun m hm=>(y3 m oM).trans (q3 m hm)⟩
    ·exact .inr ⟨rfl,q,y1,y2,y3,y4.back oM q3⟩
  ·obtain⟨rfl,A⟩:=st oM
   have A2:=A.back (h0:=h) (by rw[H.Zb,H.Zc]; omega) (fun m hm=>by rw[Zd oM,Yi oM])
   have Jf:=Yw @e0 @e21 @e22 @hl @idx @rp @lp @wp @rnd
   iterate 11 (first|refine Goes.Zl Gs ?_|refine Zr Hh Za Gs ?_|apply gS)
   iterate 3 (first|refine Goes.Zl Gs ?_|refine Zr Hh S Gs ?_|apply gS)
   refine⟨rfl,fun s hs=>?_,.inr ⟨rfl,i,oM,oM,oM,?_⟩⟩
   ·simp (decide:=true) only [Yh hs]
   ·rw[hP,<-k3]
    rwa [Nat.zero_add] at A2
def Wi (sz ino jr k:Nat):Nat->Nat
 | 0=>2+jr+k * sz
 | 1=>2+jr+k * sz+1
 | 2=>2+jr+k * sz+2
 | 3=>2+jr+k * sz+2+ino / 4
 | _=>2+jr+k * sz+sz
def Zjj (sz ino jr k:Nat):Nat->Nat × Nat × Nat × Nat × Nat
 | 0=>(4,k,2+jr+k * sz,1,0)
 | 1=>(5,k,2+jr+k * sz+1,1,1)
 | 2=>(6,k,2+jr+k * sz+2,ino / 4,2)
 | _=>(7,k,2+jr+k * sz+2+ino / 4,sz - 2 - ino / 4,2+ino / 4)
def Z9l (sz ino jr k:Nat):List C:=Zuw (Zjj sz ino jr k 0)++Zuw (Zjj sz ino jr k 1)++Zuw (Zjj sz ino jr k 2)++Zuw (Zjj sz ino jr k 3)
theorem Z4m {l pb p4 p5 p6 pg gr sz ino jr b d:Nat} {tl:Zw} (F:Fine gr sz ino jr) (s6:b<9223372036854775808) {k0:Nat} (hk0:k0<gr):∀ (k i:Nat) (ts:Zw) (h:Hq),i+k=4->Wi sz ino jr k0 i<=b->WCtx l pb p4 p5 p6 pg gr sz ino jr b d tl h->Ze ts 0=.w (.c (.yield l))->Ze ts 69=.w (.g (Z9l sz ino jr k0))->Ze ts 70=.w (.c (.int .i64 i)) ->
  Z7 79 none (q211 [1,1,1,1,2,2,1,1,0,2,1,1,1,1,2]) [] ts h fun x ds' ts' h'=>ds'=[]/\(∀ s,s<=8\/s=31\/s=32->Ze ts' s=Ze ts s)/\((x=.exit 4/\2+jr+k0 * sz+sz<=b/\h.next<=h'.next/\∀ m,m<h.next->h'.get m=h.get m) \/
   (x=.ret/\∃ q,q<4/\Wi sz ino jr k0 q<=b/\b<Wi sz ino jr k0 (q+1)/\WAns l p4 p5 p6 d tl (Zjj sz ino jr k0 q).1 k0 (b - Wi sz ino jr k0 0) h h')):=by
 obtain⟨g1,g2,g3,g4,g5,g6,g7,g8,g9,g10,g11⟩:=F
 intro k
 induction k with
 | zero =>
  intro i ts h hi hbe W e0 e69 e70
  obtain rfl:i=4:=oM
  have Jf:=@e70
  iterate 6 (first|refine Goes.Zl Zn ?_|refine Zr Hh Za Zn ?_|apply gS)
  refine⟨rfl,fun s hs=>?_,.inl ⟨rfl,hbe,Nat.le_refl _,fun _ _=>rfl⟩⟩
  rcases hs with hs|rfl|rfl<;>first|(simp (decide:=true) only [Yh hs])|(simp (decide:=true) only [Zo,reduceIte])
 | succ k ih =>
  intro i ts h hi hbe W e0 e69 e70
  obtain⟨kk,gp,fr,sz',pl,hP⟩:∃ kk gp fr sz' pl,Zjj sz ino jr k0 i=(kk,gp,fr,sz',pl):=⟨_,_,_,_,_,rfl⟩
  have m1:k0 * sz+sz<=gr * sz:=by
   have:=Nat.mul_le_mul_right sz (show k0+1<=gr by omega)
   rw[Nat.add_mul] at this
   omega
  have hi3:i=0\/i=1\/i=2\/i=3:=oM
  have hx:Zgf K (some ti317) (Z9l sz ino jr k0) (some i)=some (.g (Bo kk gp fr sz' pl))/\kk<256/\k0=gp/\fr=Wi sz ino jr k0 i/\fr+sz'=Wi sz ino jr k0 (i+1)/\pl+Wi sz ino jr k0 0=fr/\fr<1000000/\sz'<1000000:=by
   rcases hi3 with rfl|rfl|rfl|rfl<;>(simp only[Zjj,Prod.mk.injEq] at hP; obtain⟨rfl,rfl,rfl,rfl,rfl⟩:=hP; refine⟨kR,oM,rfl,rfl,?_,?_,?_,?_⟩<;>first|rfl|(simp only[Wi,Nat.reduceAdd,Nat.zero_add]<;>omega)|omega)
  obtain⟨idx,k1,rfl,k3,k4,k5,k6,k7⟩:=hx
  have W2:=W.move (h':=(h.new (.row 5 [[.int .u8 0,.int .i64 0,.int .i64 0,.int .i64 0,.int .i64 0]] false)).put h.next (.row 5 [Bo kk k0 fr sz' pl] false)) (by rw[H.Zb,H.Zc]; omega) (fun m hm=>by rw[Zd oM,Yi oM])
  obtain⟨E,h2,r,S,rnd,go,st⟩:=WCtx.round Hh W2 kk k0 fr sz' pl k1 oM k6 k7 oM s6 oM
  have hl:=W.hl
  have bl:=W.bl
  have rp:Zk 5 [Bo kk k0 fr sz' pl] 0 5=some (Bo kk k0 fr sz' pl):=rfl
  have lp:(Bo kk k0 fr sz' pl).length=5:=rfl
  have wp:Z5 5 [[.int .u8 0,.int .i64 0,.int .i64 0,.int .i64 0,.int .i64 0]] 0 (Bo kk k0 fr sz' pl)=some [Bo kk k0 fr sz' pl]:=rfl
  by_cases hc:fr+sz'<=b
  ·obtain⟨rfl,n2,q2⟩:=go hc
   have q3:∀ m,m<h.next->h2.get m=h.get m:=fun m hm=>by
    rw[q2 m (by rw[H.Zb,H.Zc]; omega),Zd oM,Yi oM]
   rw[H.Zb,H.Zc] at n2
   have Jf:=Yw @e0 @e69 @e70 @hl @idx @rp @lp @wp @rnd
   iterate 11 (first|refine Goes.Zl Gs ?_|refine Zr Hh Za Gs ?_|apply gS)
   iterate 4 (first|refine Goes.Zl Gs ?_|refine Zr Hh S Gs ?_|apply gS)
   show Z7 79 none (q211 [1,1,1,1,2,2,1,1,0,2,1,1,1,1,2]) _ _ _ _
   refine (ih (i+1) _ h2 oM oM (W.move oM q3) ?_ ?_ ?_).mono ?_
   ·exact tZ e0
   ·exact tZ e69
   ·exact tX
   ·rintro x ds' ts' h' ⟨z1,z2,z3⟩
    refine⟨z1,fun s hs=>(z2 s hs).trans (by rcases hs with hs|rfl|rfl<;>first|(simp (decide:=true) only [Yh hs])|(simp (decide:=true) only [Zo,reduceIte])),?_⟩
    rcases z3 with ⟨rfl,y1,y2,y3⟩|⟨rfl,q,y1,y2,y3,y4⟩
    ·exact .inl ⟨rfl,y1,oM,fun m hm=>(y3 m oM).trans (q3 m hm)⟩
    ·exact .inr ⟨rfl,q,y1,y2,y3,y4.back oM q3⟩
  ·obtain⟨rfl,A⟩:=st oM
   have A2:=A.back (h0:=h) (by rw[H.Zb,H.Zc]; omega) (fun m hm=>by rw[Zd oM,Yi oM])
   have Jf:=Yw @e0 @e69 @e70 @hl @idx @rp @lp @wp @rnd
   iterate 11 (first|refine Goes.Zl Gs ?_|refine Zr Hh Za Gs ?_|apply gS)
   iterate 3 (first|refine Goes.Zl Gs ?_|refine Zr Hh S Gs ?_|apply gS)
   refine⟨rfl,fun s hs=>?_,.inr ⟨rfl,i,oM,oM,oM,?_⟩⟩
   ·rcases hs with hs|rfl|rfl<;>first|(simp (decide:=true) only [Yh hs])|(simp (decide:=true) only [Zo,reduceIte])
   ·rw[hP]
    rwa [show pl+b - fr=b - Wi sz ino jr k0 0 by omega] at A2
end
theorem Yao (a1 a2 a3 a4 a5 b1 b2 b3 b4 b5 c1 c2 c3 c4 c5:C):Yg K 316 (some [(0,.g [a1,a2,a3,a4,a5]),(1,.g [b1,b2,b3,b4,b5]),(2,.g [c1,c2,c3,c4,c5])])=some (.g [a1,a2,a3,a4,a5,b1,b2,b3,b4,b5,c1,c2,c3,c4,c5]):=kR
theorem Yap (a1 a2 a3 a4 a5 b1 b2 b3 b4 b5 c1 c2 c3 c4 c5 d1 d2 d3 d4 d5:C):Yg K 317 (some [(0,.g [a1,a2,a3,a4,a5]),(1,.g [b1,b2,b3,b4,b5]),(2,.g [c1,c2,c3,c4,c5]),(3,.g [d1,d2,d3,d4,d5])])=some (.g [a1,a2,a3,a4,a5,b1,b2,b3,b4,b5,c1,c2,c3,c4,c5,d1,d2,d3,d4,d5]):=kR
theorem wrP {x y:List C} {n:Nat} (hx:x.length=n) (hy:y.length=n) (h:0<n):Z5 n [x] 0 y=some [y]:=by
 subst hy
 exact Xv h hx
theorem rdP {x:List C} {n:Nat} (hx:x.length=n) (h:0<n):Zk n [x] 0 n=some x:=by
 subst hx
 exact Qy h
section
variable (Hh:Hearts K Tryz.prog)
include Hh
set_option maxHeartbeats 4000000 in
theorem Z0e {l pb p4 p5 p6 pg gr sz ino jr b d:Nat} {tl:Zw} (F:Fine gr sz ino jr) (s6:b<9223372036854775808):∀ (m k:Nat) (ts:Zw) (h:Hq),k+m=gr->2+jr+k * sz<=b->WCtx l pb p4 p5 p6 pg gr sz ino jr b d tl h->Ze ts 0=.w (.c (.yield l))->Ze ts 1=.w (.c (.ptr pg 0))->Ze ts 3=.w (.c (.int .i64 ((ino / 4:Nat):Int)))->Ze ts 31=.w (.c (.int .i64 gr))->Ze ts 32=.w (.c (.int .i64 k)) ->
  Z7 79 none (q211 [1,1,1,1,2]) [] ts h fun x ds' ts' h'=>ds'=[]/\((x=.exit 2/\2+jr+gr * sz<=b/\h.next<=h'.next/\∀ m,m<h.next->h'.get m=h.get m) \/
   (x=.ret/\∃ k0 q,k0<gr/\q<4/\Wi sz ino jr k0 q<=b/\b<Wi sz ino jr k0 (q+1)/\WAns l p4 p5 p6 d tl (Zjj sz ino jr k0 q).1 k0 (b - Wi sz ino jr k0 0) h h')):=by
 have F':=F
 obtain⟨g1,g2,g3,g4,g5,g6,g7,g8,g9,g10,g11⟩:=F'
 intro m
 induction m with
 | zero =>
  intro k ts h hk hb W e0 e1 e3 e31 e32
  obtain rfl:k=gr:=oM
  have Jf:=Jl @e31 @e32
  iterate 6 (first|refine Goes.Zl Zn ?_|refine Zr Hh Za Zn ?_|apply gS)
  exact⟨rfl,.inl ⟨rfl,hb,Nat.le_refl _,fun _ _=>rfl⟩⟩
 | succ m ih =>
  intro k ts h hk hb W e0 e1 e3 e31 e32
  have hk0:k<gr:=oM
  have gm:(k:Int) * (sz:Int)=((k * sz:Nat):Int):=rfl
  have b1:k * sz<=gr * sz:=Nat.mul_le_mul oM oM
  have n1:(2:Int)+(jr:Int)=((2+jr:Nat):Int):=rfl
  have n2:((2+jr:Nat):Int)+((k * sz:Nat):Int)=((2+jr+k * sz:Nat):Int):=rfl
  have n3:((2+jr+k * sz:Nat):Int)+1=((2+jr+k * sz+1:Nat):Int):=rfl
  have n4:((2+jr+k * sz:Nat):Int)+2=((2+jr+k * sz+2:Nat):Int):=rfl
  have n5:((2+jr+k * sz+2:Nat):Int)+((ino / 4:Nat):Int)=((2+jr+k * sz+2+ino / 4:Nat):Int):=rfl
  have n6:(sz:Int) - 2=((sz - 2:Nat):Int):=oM
  have n7:((sz - 2:Nat):Int) - ((ino / 4:Nat):Int)=((sz - 2 - ino / 4:Nat):Int):=oM
  have n8:(2:Int)+((ino / 4:Nat):Int)=((2+ino / 4:Nat):Int):=rfl
  have hg:=W.hg
  have bg:=W.bg
  have bl:=W.bl
  iterate 17 (first|((first|apply Goes.Zl|apply Goes.ops2 fits Hh Za); · simp (maxSteps:=9^6) +decide (disch:=first|exact dZ|fail) only [go_sem,Zh,simprocAttr,e0,e1,e3,e31,e32,hg,Jr,gm,n1,n2,n3,n4,n5,n6,n7,n8,Yap,wrP,rdP,read1]<;>rfl)|apply gS)
  refine (Z4m Hh F s6 hk0 4 0 _ _ oM (by show 2+jr+k * sz<=b; omega) (W.move ?_ ?_) ?_ ?_ ?_).mono ?_
  ·simp only[H.Zb,H.Zc]<;>omega
  ·intro m' hm
   rw[Zd oM,Yi oM]
  ·exact tZ e0
  ·exact tX
  ·exact tX
  rintro x ds' ts' h' ⟨rfl,tsk,⟨rfl,y1,y2,y3⟩|⟨rfl,q,y1,y2,y3,y4⟩⟩
  ·have f0:Ze ts' 0=.w (.c (.yield l)):=(tsk 0 (.inl dM)).trans (by simp (decide:=true) only [Zo,reduceIte,e0])
   have f1:Ze ts' 1=.w (.c (.ptr pg 0)):=(tsk 1 (.inl dM)).trans (by simp (decide:=true) only [Zo,reduceIte,e1])
   have f3:Ze ts' 3=.w (.c (.int .i64 ((ino / 4:Nat):Int))):=(tsk 3 (.inl dM)).trans (by simp (decide:=true) only [Zo,reduceIte,e3])
   have f31:Ze ts' 31=.w (.c (.int .i64 gr)):=(tsk 31 (.inr (.inl rfl))).trans (by simp (decide:=true) only [Zo,reduceIte,e31])
   have f32:Ze ts' 32=.w (.c (.int .i64 k)):=(tsk 32 (.inr (.inr rfl))).trans (by simp (decide:=true) only [Zo,reduceIte,e32])
   simp only[H.Zb,H.Zc] at y2 y3
   have y4:∀ m,m<h.next->h'.get m=h.get m:=fun m' hm=>by
    rw[y3 m' oM,Zd oM,Yi oM]
   have mu:(k+1) * sz=k * sz+sz:=by rw[Nat.add_mul,Nat.one_mul]
   have Jf:=Ej @f0 @f1 @f3 @f31 @f32
   refine Zr Hh Za Zn ?_
   show Z7 79 none (q211 [1,1,1,1,2]) _ _ _ _
   refine (ih (k+1) _ h' oM oM (W.move oM y4) ?_ ?_ ?_ ?_ ?_).mono ?_
   ·exact tZ f0
   ·exact tZ f1
   ·exact tZ f3
   ·exact tZ f31
   ·exact tX
   rintro x ds' ts2 h2 ⟨z1,z3⟩
   refine⟨z1,?_⟩
   rcases z3 with ⟨rfl,z4,z5,z6⟩|⟨rfl,k0,q,z4,z5,z6,z7,z8⟩
   ·exact .inl ⟨rfl,z4,oM,fun m' hm=>(z6 m' oM).trans (y4 m' hm)⟩
   ·exact .inr ⟨rfl,k0,q,z4,z5,z6,z7,z8.back oM y4⟩
  ·exact⟨rfl,.inr ⟨rfl,k,q,hk0,y1,y2,y3,y4.back (by simp only[H.Zb,H.Zc]<;>omega) (fun m' hm=>by rw[Zd oM,Yi oM])⟩⟩
def Oo (gr sz ino jr b:Nat):Nat × Nat × Nat :=
 if b=0 then (1,0,0) else if b=1 then (2,0,0) else if b<2+jr then (3,0,b - 2) else if 2+jr+gr * sz<=b then (0,0,0)
 else ((if (b - 2 - jr) % sz=0 then 4 else if (b - 2 - jr) % sz=1 then 5 else if (b - 2 - jr) % sz<2+ino / 4 then 6 else 7),(b - 2 - jr) / sz,(b - 2 - jr) % sz)
omit Hh in
theorem Zsh {gr sz ino jr b q:Nat} (F:Fine gr sz ino jr) (hq:q<3) (h1:Zbm jr q<=b) (h2:b<Zbm jr (q+1)):Oo gr sz ino jr b=((Zo1 jr q).1,0,b - Zbm jr q):=by
 obtain⟨g1,g2,g3,g4,g5,g6,g7,g8,g9,g10,g11⟩:=F
 have:q=0\/q=1\/q=2:=oM
 unfold Oo
 rcases this with rfl|rfl|rfl<;>simp only[Zbm,Zo1,Nat.reduceAdd] at h1 h2 ⊢
 ·obtain rfl:b=0:=oM
  rfl
 ·obtain rfl:b=1:=oM
  rfl
 ·rw[if_neg oM,if_neg oM,if_pos oM]
omit Hh in
theorem Zqg {gr sz ino jr b k q:Nat} (F:Fine gr sz ino jr) (hk:k<gr) (hq:q<4) (h1:Wi sz ino jr k q<=b) (h2:b<Wi sz ino jr k (q+1)):Oo gr sz ino jr b=((Zjj sz ino jr k q).1,k,b - Wi sz ino jr k 0):=by
 obtain⟨g1,g2,g3,g4,g5,g6,g7,g8,g9,g10,g11⟩:=F
 have m1:k * sz+sz<=gr * sz:=by
  have:=Nat.mul_le_mul_right sz (show k+1<=gr by omega)
  rw[Nat.add_mul] at this
  omega
 have e0:Wi sz ino jr k 0=2+jr+k * sz:=rfl
 have r1:2+jr+k * sz<=b/\b<2+jr+k * sz+sz:=by
  have:q=0\/q=1\/q=2\/q=3:=oM
  rcases this with rfl|rfl|rfl|rfl<;>simp only[Wi,Nat.reduceAdd] at h1 h2<;>omega
 obtain⟨p,hp⟩:∃ p,b=2+jr+k * sz+p:=⟨b - (2+jr+k * sz),oM⟩
 have hps:p<sz:=oM
 have d1:b - 2 - jr=p+k * sz:=oM
 have d2:(b - 2 - jr) / sz=k:=by rw[d1,Nat.add_mul_div_right _ _ oM,Nat.div_eq_of_lt hps,Nat.zero_add]
 have d3:(b - 2 - jr) % sz=p:=by rw[d1,Nat.add_mul_mod_self_right,Nat.mod_eq_of_lt hps]
 unfold Oo
 rw[if_neg oM,if_neg oM,if_neg oM,if_neg oM,d2,d3,e0]
 have:q=0\/q=1\/q=2\/q=3:=oM
 rcases this with rfl|rfl|rfl|rfl<;>simp only[Wi,Zjj,Nat.reduceAdd] at h1 h2 ⊢
 ·rw[if_pos oM]; congr 2; omega
 ·rw[if_neg oM,if_pos oM]; congr 2; omega
 ·rw[if_neg oM,if_neg oM,if_pos oM]; congr 2; omega
 ·rw[if_neg oM,if_neg oM,if_neg oM]; congr 2; omega
end
section
variable (Hh:Hearts K Tryz.prog)
include Hh
theorem Zza (gr sz ino jr:Nat) (h:Hq):Zi 165 [.g (Jr gr sz ino jr)] h (.w (.c (.fn 211 [] [some (h.next,0)]))) (h.new (.row 4 [Jr gr sz ino jr] false)):=by
 refine fnG Hh Tryz.f165 ?_
 iterate 5 (first|(apply Goes.ops2 fits Hh Za; · simp (maxSteps:=9^6) +decide (disch:=first|exact dZ|fail) only [go_sem,Zk,Zh,simprocAttr,Yy,Jr]<;>rfl)|apply gS)
 simp (maxSteps:=9^6) +decide (disch:=first|exact dZ|fail) only [go_sem,Zk,Zh,simprocAttr,Yy,Jr]<;>rfl
set_option maxHeartbeats 4000000 in
theorem Zf4 {l pb p4 p5 p6 pg gr sz ino jr b d:Nat} {tl:Zw} (F:Fine gr sz ino jr) (s6:b<9223372036854775808) {h:Hq} (W:WCtx l pb p4 p5 p6 pg gr sz ino jr b d tl h) :
  ∃ v h',Zi 211 [.c (.yield l),.c (.ptr pg 0)] h v h'/\((2+jr+gr * sz<=b/\h.next<=h'.next/\∀ m,m<h.next->h'.get m=h.get m)\/WAns l p4 p5 p6 d tl (Oo gr sz ino jr b).1 (Oo gr sz ino jr b).2.1 (Oo gr sz ino jr b).2.2 h h'):=by
 have F':=F
 obtain⟨g1,g2,g3,g4,g5,g6,g7,g8,g9,g10,g11⟩:=F'
 have hg:=W.hg
 have bg:=W.bg
 have bl:=W.bl
 have q1:R6 .i64 (ino:Int) 4=some (.int .i64 ((ino / 4:Nat):Int)):=Nj (b:=4) oM oM
 refine Y0 Hh Tryz.f211 ?_
 iterate 8 (first|(apply Goes.ops2 fits Hh Za; · simp (maxSteps:=9^6) +decide (disch:=first|exact dZ|fail) only [go_sem,Zh,simprocAttr,hg,Jr,q1,Yao,wrP,rdP,read1]<;>rfl)|apply gS)
 refine (Zwq Hh F s6 3 0 _ _ oM (Nat.zero_le _) (W.move ?_ ?_) ?_ ?_ ?_).mono ?_
 ·simp only[H.Zb,H.Zc]<;>omega
 ·intro m' hm
  rw[Zd oM,Yi oM]
 ·simp (decide:=true) only [Zo,reduceIte,Gl,List.getElem?_cons_zero]
 ·exact tX
 ·exact tX
 rintro x ds' ts' h' ⟨rfl,tsk,⟨rfl,y1,y2,y3⟩|⟨rfl,q,y1,y2,y3,y4⟩⟩
 ·have f0:Ze ts' 0=.w (.c (.yield l)):=(tsk 0 dM).trans (by simp (decide:=true) only [Zo,reduceIte,Gl,List.getElem?_cons_zero])
  have f1:Ze ts' 1=.w (.c (.ptr pg 0)):=(tsk 1 dM).trans (by simp (decide:=true) only [Zo,reduceIte,Gl,List.getElem?_cons_succ,List.getElem?_cons_zero])
  have f3:Ze ts' 3=.w (.c (.int .i64 ((ino / 4:Nat):Int))):=(tsk 3 dM).trans (by simp (decide:=true) only [Zo,reduceIte])
  simp only[H.Zb,H.Zc] at y2 y3
  have y4:∀ m,m<h.next->h'.get m=h.get m:=fun m' hm=>by
   rw[y3 m' oM,Zd oM,Yi oM]
  have W2:=W.move oM y4
  have hg2:=W2.hg
  iterate 3 (first|(apply Goes.ops2 fits Hh Za; · simp (maxSteps:=9^6) +decide (disch:=first|exact dZ|fail) only [go_sem,Zk,Zh,simprocAttr,f0,f1,f3,hg2,Jr,read1]<;>rfl)|apply gS)
  refine (Z0e Hh F s6 gr 0 _ _ oM oM W2 ?_ ?_ ?_ ?_ ?_).mono ?_
  ·exact tZ f0
  ·exact tZ f1
  ·exact tZ f3
  ·exact tY
  ·exact tX
  rintro x ds' ts2 h2 ⟨rfl,⟨rfl,z4,z5,z6⟩|⟨rfl,k0,q,z4,z5,z6,z7,z8⟩⟩
  ·
   exact⟨_,_,Zf,.inl ⟨z4,oM,fun m hm=>(z6 m oM).trans (y4 m hm)⟩⟩
  ·refine⟨_,_,Zf,.inr ?_⟩
   rw[Zqg F z4 z5 z6 z7]
   exact z8.back oM y4
 ·refine⟨_,_,Zf,.inr ?_⟩
  rw[Zsh F y1 y2 y3]
  exact y4.back (by simp only[H.Zb,H.Zc]<;>omega) (fun m hm=>by rw[Zd oM,Yi oM])
theorem Z04 {gr sz ino jr b pb p4 p5 p6 pg:Nat} (F:Fine gr sz ino jr) (s6:b<9223372036854775808) (ts:Zw) (h:Hq) (d1:p4≠p5) (d2:p4≠p6) (d3:p5≠p6) (d4:pb≠p4) (d5:pb≠p5) (d6:pb≠p6) (b4:p4<h.next) (b5:p5<h.next) (b6:p6<h.next) (bb:pb<h.next) (bg:pg<h.next)
  (e3:Ze ts 3=.w (.c (.ptr pb 0))) (e4:Ze ts 4=.w (.c (.ptr p4 0))) (e5:Ze ts 5=.w (.c (.ptr p5 0))) (e6:Ze ts 6=.w (.c (.ptr p6 0))) (e16:Ze ts 16=.w (.c (.fn 211 [] [some (pg,0)])))
  (hb:h.get pb=some (.row 1 [[.int .i64 b]] false)) (r4:∃ x,h.get p4=some (.row 1 [[x]] false)) (r5:∃ x,h.get p5=some (.row 1 [[x]] false)) (r6:∃ x,h.get p6=some (.row 1 [[x]] false)) (hg:h.get pg=some (.row 4 [Jr gr sz ino jr] false)) :
  Z7 36 none (q118 [1,1,0,1,2]) [] ts h fun x ds' ts' h'=>ts'=ts/\ds'=[h.next]/\h'.get h.next=some .defers/\((x=.normal/\Oo gr sz ino jr b=(0,0,0)/\∀ m,m<h.next->h'.get m=h.get m) \/
   (x=.ret/\h'.get p4=some (.row 1 [[.int .u8 (Oo gr sz ino jr b).1]] false)/\h'.get p5=some (.row 1 [[.int .i64 (Oo gr sz ino jr b).2.1]] false)/\h'.get p6=some (.row 1 [[.int .i64 (Oo gr sz ino jr b).2.2]] false)/\∀ m,m<h.next->m≠p4->m≠p5->m≠p6->h'.get m=h.get m)):=by
 have g0:∀ (o:O) m,m<h.next->((h.new .defers).new o).get m=h.get m:=fun o m hm=>by rw[Yi (by rw[H.Zc]; omega),Yi oM]
 have W:WCtx (h.next+1) pb p4 p5 p6 pg gr sz ino jr b h.next ts ((h.new .defers).new (.loop ts 36 [17] (q118 [1,1,0,1,2,5]) (q118 [1,1,0,1,2,6]) .ready none h.next)) :=
  ⟨d1,d2,d3,d4,d5,d6,oM,oM,oM,oM,by simp only[H.Zc]; omega,by simp only[H.Zc]; omega,by simp only[H.Zc]; omega,by simp only[H.Zc]; omega,by simp only[H.Zc]; omega,by simp only[H.Zc]; omega,e3,e4,e5,e6,
   by rw[Ob (by simp only[H.Zc]<;>omega)],by rw[g0 _ _ bb]; exact hb,by rw[g0 _ _ b4]; exact r4,by rw[g0 _ _ b5]; exact r5,by rw[g0 _ _ b6]; exact r6,by rw[g0 _ _ bg]; exact hg⟩
 have gd:∀ o:O,((h.new .defers).new o).get h.next=some .defers:=fun o=>by rw[Yi (by rw[H.Zc]; omega),Dy]
 rw[Zr2]
 refine Goes.Zm5 fits Hh (f:=211) (first:=[]) (caps:=[some (pg,0)]) (by simp only[Zz,Yb,e16,asC]) (exE (Zf4 Hh F s6 W) ?_)
 rintro v h3 (⟨w1,w2,w3⟩|A)
 ·simp only[H.Zc] at w2 w3
  have hN:Oo gr sz ino jr b=(0,0,0):=by
   obtain⟨g1,g2,g3,g4,g5,g6,g7,g8,g9,g10,g11⟩:=F
   unfold Oo
   rw[if_neg oM,if_neg oM,if_neg oM,if_pos w1]
  refine⟨_,_,_,_,_,_,_,_,(w3 _ oM).trans W.hl,by simp,?_⟩
  show _/\_/\_
  refine⟨rfl,rfl,?_,.inl ⟨rfl,hN,fun m hm=>?_⟩⟩
  ·rw[Zd oM,w3 _ oM,gd]
  ·rw[Zd oM,w3 _ oM,g0 _ _ hm]
 ·have kp:=A.keep
  simp only[H.Zc] at kp
  refine⟨_,_,_,_,_,_,_,_,A.hl,by simp,?_⟩
  show _/\_/\_
  refine⟨rfl,rfl,?_,.inr ⟨rfl,?_,?_,?_,fun m hm n4 n5 n6=>?_⟩⟩
  ·rw[Zd oM,kp _ oM oM oM oM oM,gd]
  ·rw[Zd oM,A.r4]
  ·rw[Zd oM,A.r5]
  ·rw[Zd oM,A.r6]
  ·rw[Zd oM,kp _ oM oM n4 n5 n6,g0 _ _ hm]
set_option maxHeartbeats 4000000 in
theorem Zsi {gr sz ino jr:Nat} (F:Fine gr sz ino jr) (h:Hq) (b:Nat) (s6:b<9223372036854775808):Zi 118 [.g (Jr gr sz ino jr),.c (.int .i64 b)] h (.tup [.c (.int .u8 ((Oo gr sz ino jr b).1:Nat)),.c (.int .i64 ((Oo gr sz ino jr b).2.1:Nat)),.c (.int .i64 ((Oo gr sz ino jr b).2.2:Nat))]) h:=by
 obtain⟨v,h',c,rfl,hk⟩:∃ v h',Zi 118 [.g (Jr gr sz ino jr),.c (.int .i64 b)] h v h'/\v=.tup [.c (.int .u8 ((Oo gr sz ino jr b).1:Nat)),.c (.int .i64 ((Oo gr sz ino jr b).2.1:Nat)),.c (.int .i64 ((Oo gr sz ino jr b).2.2:Nat))]/\∀ m,m<h.next->h'.get m=h.get m:=by
  refine Y0 Hh Tryz.f118 ?_
  iterate 4 (first|(apply Goes.ops2 fits Hh Za; · simp (maxSteps:=9^6) +decide (disch:=first|exact dZ|fail) only [go_sem,Zk,Zh,simprocAttr,Jr,read1,Yy]<;>rfl)|apply gS)
  iterate 5 (first|((first|apply Goes.Zl|apply Goes.ops2 fits Hh (Jj Za (Zmf Hh F))); · simp (maxSteps:=9^6) +decide (disch:=first|exact dZ|fail) only [go_sem,Zk,Zh,simprocAttr,Jr,read1,Yy]<;>rfl)|apply gS)
  iterate 2 (first|(apply Goes.ops2 fits Hh (Jj Za (Zza Hh gr sz ino jr)); · simp (maxSteps:=9^6) +decide (disch:=first|exact dZ|fail) only [go_sem,Zk,Zh,simprocAttr,Jr,read1,Yy]<;>rfl)|apply gS)
  refine (Z04 Hh F s6 _ _ (pb:=h.next+1) (p4:=h.next+1+1) (p5:=h.next+1+1+1) (p6:=h.next+1+1+1+1) (pg:=h.next+1+1+1+1+1) oM oM oM oM oM oM (by simp only[H.Zc]<;>omega) (by simp only[H.Zc]<;>omega) (by simp only[H.Zc]<;>omega) (by simp only[H.Zc]<;>omega) (by simp only[H.Zc]<;>omega) Zf Zf Zf Zf Zf Zf ⟨_,by exact Zf⟩ ⟨_,by exact Zf⟩ ⟨_,by exact Zf⟩ Zf).mono ?_
  rintro x ds' ts' h' ⟨rfl,rfl,gd,⟨rfl,hN,kp⟩|⟨rfl,r4,r5,r6,kp⟩⟩
  ·simp only[H.Zc] at gd kp
   have k4:=(kp (h.next+1+1) oM).trans (show _=some (.row 1 [[.int .u8 0]] false) by simp (maxSteps:=9^6) +decide (disch:=first|exact dZ|fail) only [go_sem,Zk,Zh,simprocAttr])
   have k5:=(kp (h.next+1+1+1) oM).trans (show _=some (.row 1 [[.int .i64 0]] false) by simp (maxSteps:=9^6) +decide (disch:=first|exact dZ|fail) only [go_sem,Zk,Zh,simprocAttr])
   have k6:=(kp (h.next+1+1+1+1) oM).trans (show _=some (.row 1 [[.int .i64 0]] false) by simp (maxSteps:=9^6) +decide (disch:=first|exact dZ|fail) only [go_sem,Zk,Zh,simprocAttr])
   have Jf:=Um @k4 @k5 @k6 @gd
   iterate 3 (first|refine Zr Hh Za Gu ?_|apply gS)
   refine⟨_,_,Z6,by rw[hN]<;>rfl,fun m hm=>?_⟩
   simp (maxSteps:=9^6) +decide (disch:=first|exact dZ|fail) only [go_sem,Zk,Zh,simprocAttr]
   rw[kp m oM]
   simp (maxSteps:=9^6) +decide (disch:=first|exact dZ|fail) only [go_sem,Zk,Zh,simprocAttr]
  ·simp only[H.Zc] at gd kp
   refine⟨_,_,(by have Jf:=Um @gd @r4 @r5 @r6; exact Z6),rfl,fun m hm=>?_⟩
   simp (maxSteps:=9^6) +decide (disch:=first|exact dZ|fail) only [go_sem,Zk,Zh,simprocAttr]
   rw[kp m oM oM oM oM]
   simp (maxSteps:=9^6) +decide (disch:=first|exact dZ|fail) only [go_sem,Zk,Zh,simprocAttr]
 exact Zy.quiet c rfl hk
theorem Z5a {gr sz ino jr:Nat} (F:Fine gr sz ino jr) (h:Hq) (z:Int) (hz:z<0):Zi 118 [.g (Jr gr sz ino jr),.c (.int .i64 z)] h (.tup [.c (.int .u8 0),.c (.int .i64 0),.c (.int .i64 0)]) h:=by
 obtain⟨v,h',c,rfl,hk⟩:∃ v h',Zi 118 [.g (Jr gr sz ino jr),.c (.int .i64 z)] h v h'/\v=.tup [.c (.int .u8 0),.c (.int .i64 0),.c (.int .i64 0)]/\∀ m,m<h.next->h'.get m=h.get m:=by
  refine Y0 Hh Tryz.f118 ?_
  iterate 4 (first|(apply Goes.ops2 fits Hh Za; · simp (maxSteps:=9^6) +decide (disch:=first|exact dZ|fail) only [go_sem,Zk,Zh,simprocAttr,Jr,read1,Yy,Z5]<;>rfl)|apply gS)
  iterate 5 (first|((first|apply Goes.Zl|apply Goes.ops2 fits Hh (Jj Za (Zmf Hh F))); · simp (maxSteps:=9^6) +decide (disch:=first|exact dZ|fail) only [go_sem,Zk,Zh,simprocAttr,Jr,read1,Yy,Z5]<;>rfl)|apply gS)
  refine⟨_,_,Z56,rfl,fun m hm=>by exact Jg⟩
 exact Zy.quiet c rfl hk
end
end Go.Proofs.YteiljiijagmonaaGreatDoor
