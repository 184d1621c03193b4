/- A geometry that may be. -/
import Derived.Test.YtecakmodlkbnaaaGreatDoorTxn2
import Derived.Test.YtecakmodlkbnaaaGreatDoorEvC
set_option linter.unusedSimpArgs false
set_option linter.unusedVariables false
set_option linter.unusedSectionVars false
set_option maxRecDepth 100000
namespace Go.Proofs.YtecakmodlkbnaaaGreatDoor
open Go.Ev
structure Fine (gr sz ino jr:Nat):Prop where
 gr1:1≤gr
 gr4:gr≤4
 sz1:16≤sz
 sz2:sz≤512
 ino1:4≤ino
 ino2:ino≤64
 ino4:ino % 4=0
 jr1:40≤jr
 jr2:jr≤256
 fit:3+ino / 4≤sz
 all:2+jr+gr * sz≤2048
def Jk (gr sz ino jr:Nat):List C:=[.int .i64 gr,.int .i64 sz,.int .i64 ino,.int .i64 jr]
theorem Jp {j k b:Nat} (h:j<k):j * b+b≤k * b:=by
 have:=Nat.mul_le_mul_right b h
 rwa [Nat.succ_mul] at this
theorem ty23:K.types.get 23=some ti23:=by kernel_rfl
theorem sz23:ti23.size=4:=by rfl
theorem ag23:ti23.agg=true:=by rfl
theorem fo23_0:Zt K 23 0=some (0,ti3):=by kernel_rfl
theorem fo23_1:Zt K 23 1=some (1,ti3):=by kernel_rfl
theorem fo23_2:Zt K 23 2=some (2,ti3):=by kernel_rfl
theorem fo23_3:Zt K 23 3=some (3,ti3):=by kernel_rfl
theorem bu23 (ps:List (Nat × W)):Yo K 23 (some ps)=gW (Yd K 23 ps ti23.zero.cells):=by kernel_rfl
theorem ze23:ti23.zero=(.g ([.int .i64 0,.int .i64 0,.int .i64 0,.int .i64 0])):=by rfl
theorem by23:ti23.bytes=32:=by rfl
attribute [go_sem] ty3 sz3 ag3 de3 ze3 by3 ke3 ty4 sz4 ag4 de4 ze4 by4 ty23 sz23 ag23 fo23_0 fo23_1 fo23_2 fo23_3 bu23 ze23 by23
theorem rs55:Tryz.f55.results.toList=[.tmp 2]:=rfl
theorem rs56:Tryz.f56.results.toList=[.tmp 2]:=rfl
attribute [go_sem] rs55 rs56
section
variable (Hh:Hearts K Tryz.prog)
include Hh
theorem Zlu {gr sz ino jr:Nat} (F:Fine gr sz ino jr) (h:Go.Ev.H):Zg 55 [.g (Jk gr sz ino jr)] h (.w (.c (.bool true))) h:=by
 obtain⟨g1,g2,g3,g4,g5,g6,g7,g8,g9,g10,g11⟩:=F
 have gm:(gr:Int) * (sz:Int)=((gr * sz:Nat):Int):=rfl
 obtain⟨v,h',c,rfl,hk⟩:∃ v h',Zg 55 [.g (Jk gr sz ino jr)] h v h'∧v=.w (.c (.bool true))∧∀ m,m<h.next→h'.get m=h.get m:=by
  refine Yg Hh Tryz.f55 ?_
  repeat (first|apply Zk|apply Yt|apply Zw|apply Z0|((first|apply Goes.Zi|apply Goes.ops2 fits Hh Za); · simp (maxSteps:=9^6) +decide (disch:=first|omega|(simp only[lens]<;>omega)|decide) only [go_sem,Zn,Zm,simprocAttr,Jk,gm,read1]<;>rfl))
  refine⟨_,_,Zc,rfl,fun m hm=>?_⟩
  simp (maxSteps:=9^6) +decide (disch:=first|omega|(simp only[lens]<;>omega)|decide) only [go_sem,Zn,Zm,simprocAttr]
 exact Zy.quiet c rfl hk
theorem Zwz {gr sz ino jr:Nat} (F:Fine gr sz ino jr) (h:Go.Ev.H):Zg 56 [.g (Jk gr sz ino jr)] h (.w (.c (.int .i64 ((2+jr+gr * sz:Nat):Int)))) h:=by
 have F':=F
 obtain⟨g1,g2,g3,g4,g5,g6,g7,g8,g9,g10,g11⟩:=F'
 have gm:(gr:Int) * (sz:Int)=((gr * sz:Nat):Int):=rfl
 have c1:=Zlu Hh F (h.new (.row 4 [Jk gr sz ino jr] false))
 obtain⟨v,h',c,rfl,hk⟩:∃ v h',Zg 56 [.g (Jk gr sz ino jr)] h v h'∧v=.w (.c (.int .i64 ((2+jr+gr * sz:Nat):Int)))∧∀ m,m<h.next→h'.get m=h.get m:=by
  refine Yg Hh Tryz.f56 ?_
  iterate 4 (first|apply Zk|(apply Goes.ops2 fits Hh Za; · simp (maxSteps:=9^6) +decide (disch:=first|omega|(simp only[lens]<;>omega)|decide) only [go_sem,Zn,Zm,simprocAttr,Jk,gm,read1]<;>rfl))
  iterate 6 (first|apply Zk|apply Zw|apply Z0|((first|apply Goes.Zi|apply Goes.ops2 fits Hh (Zp Za c1)); · simp (maxSteps:=9^6) +decide (disch:=first|omega|(simp only[lens]<;>omega)|decide) only [go_sem,Zn,Zm,simprocAttr,Ya,Jk,gm,read1]<;>rfl))
  refine⟨_,_,Zc,rfl,fun m hm=>?_⟩
  simp (maxSteps:=9^6) +decide (disch:=first|omega|(simp only[lens]<;>omega)|decide) only [go_sem,Zn,Zm,simprocAttr]
 exact Zy.quiet c rfl hk
end
theorem ty287:K.types.get 287=some ti287:=by kernel_rfl
theorem sz287:ti287.size=5:=by rfl
theorem ag287:ti287.agg=true:=by rfl
theorem fo287_0:Zt K 287 0=some (0,ti5):=by kernel_rfl
theorem fo287_1:Zt K 287 1=some (1,ti3):=by kernel_rfl
theorem fo287_2:Zt K 287 2=some (2,ti3):=by kernel_rfl
theorem fo287_3:Zt K 287 3=some (3,ti3):=by kernel_rfl
theorem fo287_4:Zt K 287 4=some (4,ti3):=by kernel_rfl
theorem bu287 (ps:List (Nat × W)):Yo K 287 (some ps)=gW (Yd K 287 ps ti287.zero.cells):=by kernel_rfl
theorem ze287:ti287.zero=(.g ([.int .u8 0,.int .i64 0,.int .i64 0,.int .i64 0,.int .i64 0])):=by rfl
theorem by287:ti287.bytes=40:=by rfl
theorem ty324:K.types.get 324=some ti324:=by kernel_rfl
theorem sz324:ti324.size=15:=by rfl
theorem ag324:ti324.agg=true:=by rfl
theorem de324:ti324.desc=(.array 3 287):=by rfl
theorem ze324:ti324.zero=(.g ([.int .u8 0,.int .i64 0,.int .i64 0,.int .i64 0,.int .i64 0,.int .u8 0,.int .i64 0,.int .i64 0,.int .i64 0,.int .i64 0,.int .u8 0,.int .i64 0,.int .i64 0,.int .i64 0,.int .i64 0])):=by rfl
theorem by324:ti324.bytes=120:=by rfl
theorem ty325:K.types.get 325=some ti325:=by kernel_rfl
theorem sz325:ti325.size=20:=by rfl
theorem ag325:ti325.agg=true:=by rfl
theorem de325:ti325.desc=(.array 4 287):=by rfl
theorem ze325:ti325.zero=(.g ([.int .u8 0,.int .i64 0,.int .i64 0,.int .i64 0,.int .i64 0,.int .u8 0,.int .i64 0,.int .i64 0,.int .i64 0,.int .i64 0,.int .u8 0,.int .i64 0,.int .i64 0,.int .i64 0,.int .i64 0,.int .u8 0,.int .i64 0,.int .i64 0,.int .i64 0,.int .i64 0])):=by rfl
theorem by325:ti325.bytes=160:=by rfl
attribute [go_sem] ty5 sz5 ag5 de5 ze5 by5 ke5 ty287 sz287 ag287 fo287_0 fo287_1 fo287_2 fo287_3 fo287_4 bu287 ze287 by287 ty324 sz324 ag324 de324 ze324 by324 ty325 sz325 ag325 de325 ze325 by325
noncomputable def q142 (p:List Nat):Code:=piece p (Uh Tryz.f142)
theorem Zt0:q142 [1,1,0,1,2]=.rangeFunc (.tmp 16) #[17] (q142 [1,1,0,1,2,5]) (q142 [1,1,0,1,2,6]):=by kernel_rfl
theorem Zp1:q142 [1,1,0,1,2,5]=.region 4 (Zy1 (q142 [1,1,0,1,2,5])) false:=by kernel_rfl
theorem Zqp:q142 [1,1,0,1,2,6]=.block 1 (q142 [1,1,0,1,2,6,2]):=by kernel_rfl
noncomputable def q226 (p:List Nat):Code:=piece p (Uh Tryz.f226)
theorem rs142:Tryz.f142.results.toList=[.cell 4 5,.cell 5 3,.cell 6 3]:=rfl
theorem rs188:Tryz.f188.results.toList=[.tmp 2]:=rfl
theorem rs226:Tryz.f226.results.toList=[]:=rfl
attribute [go_sem] rs142 rs188 rs226
def Bf (kk gp fr sz pl:Nat):List C:=[.int .u8 kk,.int .i64 gp,.int .i64 fr,.int .i64 sz,.int .i64 pl]
section
variable (Hh:Hearts K Tryz.prog)
include Hh
theorem Ya8 (l:Nat) (ts:Zx) (kk gp fr sz pl:Nat) (h:Go.Ev.H):Ye 36 (some l) (q142 [1,1,0,1,2,5]) [] (ts.set 17 (.w (.g (Bf kk gp fr sz pl)))) h fun x ds' ts' h'=>x=.normal∧ds'=[]∧(∀ s,s≤6→Zh ts' s=Zh ts s)∧Zh ts' 7=.w (.c (.ptr h.next 0))∧h'.next=h.next+1∧h'.get h.next=some (.row 5 [Bf kk gp fr sz pl] false)∧∀ m,m≠h.next→h'.get m=h.get m:=by
 (apply Goes.ops2 fits Hh Za; · simp (maxSteps:=9^6) +decide (disch:=first|omega|(simp only[lens]<;>omega)|decide) only [go_sem,Zn,Zm,simprocAttr,Bf]<;>rfl)
 refine⟨rfl,rfl,fun s hs=>?_,?_,rfl,?_,fun m hm=>?_⟩
 ·simp (decide:=true) only [Yz hs]
 ·exact Zc
 ·simp (maxSteps:=9^6) +decide (disch:=first|omega|(simp only[lens]<;>omega)|decide) only [go_sem,Zn,Zm,simprocAttr,Bf]
 ·exact Zc
set_option maxHeartbeats 4000000 in
theorem Yam (l:Nat) (ts:Zx) (pb p4 p5 p6 q kk gp fr sz pl b:Nat) (h:Go.Ev.H) (x4 x5 x6:C) (s1:kk<256) (s2:gp<1000000) (s3:fr<1000000) (s4:sz<1000000) (s5:pl<1000000) (s6:b<9223372036854775808) (s7:fr≤b)
  (d1:p4≠p5) (d2:p4≠p6) (d3:p5≠p6) (d4:pb≠p4) (d5:pb≠p5) (d6:pb≠p6) (d7:q≠p4) (d8:q≠p5) (d9:q≠p6)
  (e3:Zh ts 3=.w (.c (.ptr pb 0))) (e4:Zh ts 4=.w (.c (.ptr p4 0))) (e5:Zh ts 5=.w (.c (.ptr p5 0))) (e6:Zh ts 6=.w (.c (.ptr p6 0))) (e7:Zh ts 7=.w (.c (.ptr q 0)))
  (hb:h.get pb=some (.row 1 [[.int .i64 b]] false)) (hq:h.get q=some (.row 5 [Bf kk gp fr sz pl] false)) (r4:h.get p4=some (.row 1 [[x4]] false)) (r5:h.get p5=some (.row 1 [[x5]] false)) (r6:h.get p6=some (.row 1 [[x6]] false)) :
  Ye 36 (some l) (q142 [1,1,0,1,2,6]) [] ts h fun x _ _ h'=>h'.next=h.next∧(b<fr+sz→x=.ret∧h'.get p4=some (.row 1 [[.int .u8 kk]] false)∧h'.get p5=some (.row 1 [[.int .i64 gp]] false)∧h'.get p6=some (.row 1 [[.int .i64 ((pl+b - fr:Nat):Int)]] false))∧(fr+sz≤b→x=.normal∧h'=h)∧∀ m,m≠p4→m≠p5→m≠p6→h'.get m=h.get m:=by
 have w9:((pl:Int)+(b:Int)) - (fr:Int)=((pl+b - fr:Nat):Int):=by omega
 by_cases hlt:b<fr+sz
 ·
  iterate 7 (first|apply Zk|apply Yt|apply Z0|((first|apply Goes.Zi|apply Goes.ops2 fits Hh Za); · simp (maxSteps:=9^6) +decide (disch:=first|omega|(simp only[lens]<;>omega)|decide) only [go_sem,Zn,Zm,simprocAttr,e3,e4,e5,e6,e7,hb,hq,r4,r5,r6,Bf,read1,w9,Z4]<;>rfl)|(apply Goes.drawn2 fits Hh Za (by kernel_rfl); · simp (maxSteps:=9^6) +decide (disch:=first|omega|(simp only[lens]<;>omega)|decide) only [go_sem,Zn,Zm,simprocAttr,drG,e3,e4,e5,e6,e7,hb,hq,r4,r5,r6,Bf,read1,w9,Z4]<;>rfl))
  refine⟨rfl,fun _=>⟨rfl,?_,?_,?_⟩,fun h9=>by omega,fun m h1 h2 h3=>?_⟩
  ·exact Zc
  ·exact Zc
  ·exact Zc
  ·exact Zc
 ·
  iterate 5 (first|apply Zk|apply Zw|apply Yt|((first|apply Goes.Zi|apply Goes.ops2 fits Hh Za); · simp (maxSteps:=9^6) +decide (disch:=first|omega|(simp only[lens]<;>omega)|decide) only [go_sem,Zn,Zm,simprocAttr,e3,e4,e5,e6,e7,hb,hq,r4,r5,r6,Bf,read1]<;>rfl))
  exact⟨rfl,fun h9=>by omega,fun _=>⟨rfl,rfl⟩,fun _ _ _ _=>rfl⟩
theorem Zw7 (l:Nat) (ts:Zx) (pb p4 p5 p6 kk gp fr sz pl b d:Nat) (h:Go.Ev.H) (x4 x5 x6:C) (s1:kk<256) (s2:gp<1000000) (s3:fr<1000000) (s4:sz<1000000) (s5:pl<1000000) (s6:b<9223372036854775808) (s7:fr≤b)
  (d1:p4≠p5) (d2:p4≠p6) (d3:p5≠p6) (d4:pb≠p4) (d5:pb≠p5) (d6:pb≠p6) (l4:l≠p4) (l5:l≠p5) (l6:l≠p6) (lb:l≠pb) (b4:p4<h.next) (b5:p5<h.next) (b6:p6<h.next) (bb:pb<h.next) (bl:l<h.next)
  (e3:Zh ts 3=.w (.c (.ptr pb 0))) (e4:Zh ts 4=.w (.c (.ptr p4 0))) (e5:Zh ts 5=.w (.c (.ptr p5 0))) (e6:Zh ts 6=.w (.c (.ptr p6 0)))
  (hl:h.get l=some (.loop ts 36 [17] (q142 [1,1,0,1,2,5]) (q142 [1,1,0,1,2,6]) .ready none d))
  (hb:h.get pb=some (.row 1 [[.int .i64 b]] false)) (r4:h.get p4=some (.row 1 [[x4]] false)) (r5:h.get p5=some (.row 1 [[x5]] false)) (r6:h.get p6=some (.row 1 [[x6]] false)) :
  ∃ E h' r,Sound K Tryz.prog E∧Jz E l (some [.g (Bf kk gp fr sz pl)]) h (h.get l)=some (.val (.w (.c (.bool r))) h')∧h.next≤h'.next ∧
   (fr+sz≤b→r=true∧∀ m,m<h.next→h'.get m=h.get m) ∧
   (b<fr+sz→r=false∧h'.get l=some (.loop ts 36 [17] (q142 [1,1,0,1,2,5]) (q142 [1,1,0,1,2,6]) .done (some .ret) d)∧h'.get p4=some (.row 1 [[.int .u8 kk]] false)∧h'.get p5=some (.row 1 [[.int .i64 gp]] false)∧h'.get p6=some (.row 1 [[.int .i64 ((pl+b - fr:Nat):Int)]] false)∧∀ m,m<h.next→m≠l→m≠p4→m≠p5→m≠p6→h'.get m=h.get m):=by
 obtain⟨xa,ds1,ts1,h1,kA,rfl,rfl,t1,t7,n1,g1,f1⟩:=Ya8 Hh l ts kk gp fr sz pl h
 have q1:∀ m,m<h.next→m≠l→(h1.put l (.loop ts 36 [17] (q142 [1,1,0,1,2,5]) (q142 [1,1,0,1,2,6]) .busy none d)).get m=h.get m:=fun m hm hml=>by rw[Ze hml,f1 m (by omega)]
 have gl:h1.get l=some (.loop ts 36 [17] (q142 [1,1,0,1,2,5]) (q142 [1,1,0,1,2,6]) .ready none d):=by rw[f1 l (by omega)]; exact hl
 obtain⟨xb,ds2,ts2,h2,kB,n2,st,go,f2⟩:=Yam Hh l ts1 pb p4 p5 p6 h.next kk gp fr sz pl b (h1.put l (.loop ts 36 [17] (q142 [1,1,0,1,2,5]) (q142 [1,1,0,1,2,6]) .busy none d)) x4 x5 x6 s1 s2 s3 s4 s5 s6 s7 d1 d2 d3 d4 d5 d6 (by omega) (by omega) (by omega)
  ((t1 3 (by decide)).trans e3) ((t1 4 (by decide)).trans e4) ((t1 5 (by decide)).trans e5) ((t1 6 (by decide)).trans e6) t7 ((q1 pb bb (Ne.symm lb)).trans hb) (by rw[Ze (by omega)]; exact g1) ((q1 p4 b4 (Ne.symm l4)).trans r4) ((q1 p5 b5 (Ne.symm l5)).trans r5) ((q1 p6 b6 (Ne.symm l6)).trans r6)
 have hl2:h2.get l=some (.loop ts 36 [17] (q142 [1,1,0,1,2,5]) (q142 [1,1,0,1,2,6]) .busy none d):=by rw[f2 l l4 l5 l6]; exact Zz ..
 have S:=Bj (Bj Za kB) kA
 refine⟨_,_,_,S,Lg hl (by simp only[U4]; rfl) (Eh ..) gl (Qf (fun e=>?_) |>.trans (Eh ..)) hl2,?_,fun h9=>?_,fun h9=>?_⟩
 ·have e1:=(Task.code.inj e).1
  rw[Zqp,Zp1] at e1
  cases e1
 ·rw[H.Zd,n2,H.Zd,n1]; omega
 ·obtain⟨rfl,rfl⟩:=go h9
  refine⟨rfl,fun m hm=>?_⟩
  by_cases e:m=l
  ·subst e; rw[Zz,hl]; rfl
  ·rw[Ze e,q1 m hm e]
 ·obtain⟨rfl,k4,k5,k6⟩:=st h9
  refine⟨rfl,Zz ..,?_,?_,?_,fun m hm a1 a2 a3 a4=>?_⟩
  ·rw[Ze (Ne.symm l4)]; exact k4
  ·rw[Ze (Ne.symm l5)]; exact k5
  ·rw[Ze (Ne.symm l6)]; exact k6
  ·rw[Ze a1,f2 m a2 a3 a4,q1 m hm a1]
structure WCtx (l pb p4 p5 p6 pg gr sz ino jr b d:Nat) (ts:Zx) (h:Go.Ev.H):Prop where
 d1:p4≠p5
 d2:p4≠p6
 d3:p5≠p6
 d4:pb≠p4
 d5:pb≠p5
 d6:pb≠p6
 l4:l≠p4
 l5:l≠p5
 l6:l≠p6
 lb:l≠pb
 b4:p4<h.next
 b5:p5<h.next
 b6:p6<h.next
 bb:pb<h.next
 bl:l<h.next
 bg:pg<h.next
 e3:Zh ts 3=.w (.c (.ptr pb 0))
 e4:Zh ts 4=.w (.c (.ptr p4 0))
 e5:Zh ts 5=.w (.c (.ptr p5 0))
 e6:Zh ts 6=.w (.c (.ptr p6 0))
 hl:h.get l=some (.loop ts 36 [17] (q142 [1,1,0,1,2,5]) (q142 [1,1,0,1,2,6]) .ready none d)
 hb:h.get pb=some (.row 1 [[.int .i64 b]] false)
 r4:∃ x,h.get p4=some (.row 1 [[x]] false)
 r5:∃ x,h.get p5=some (.row 1 [[x]] false)
 r6:∃ x,h.get p6=some (.row 1 [[x]] false)
 hg:h.get pg=some (.row 4 [Jk gr sz ino jr] false)
omit Hh in
theorem WCtx.move {l pb p4 p5 p6 pg gr sz ino jr b d:Nat} {ts:Zx} {h h':Go.Ev.H} (W:WCtx l pb p4 p5 p6 pg gr sz ino jr b d ts h) (hn:h.next≤h'.next) (k:∀ m,m<h.next→h'.get m=h.get m):WCtx l pb p4 p5 p6 pg gr sz ino jr b d ts h':=by
 obtain⟨d1,d2,d3,d4,d5,d6,l4,l5,l6,lb,b4,b5,b6,bb,bl,bg,e3,e4,e5,e6,hl,hb,r4,r5,r6,hg⟩:=W
 exact⟨d1,d2,d3,d4,d5,d6,l4,l5,l6,lb,by omega,by omega,by omega,by omega,by omega,by omega,e3,e4,e5,e6,(k l bl).trans hl,(k pb bb).trans hb,by rw[k p4 b4]; exact r4,by rw[k p5 b5]; exact r5,by rw[k p6 b6]; exact r6,(k pg bg).trans hg⟩
structure WAns (l p4 p5 p6 d:Nat) (ts:Zx) (kk gp pl:Nat) (h0 h:Go.Ev.H):Prop where
 next:h0.next≤h.next
 hl:h.get l=some (.loop ts 36 [17] (q142 [1,1,0,1,2,5]) (q142 [1,1,0,1,2,6]) .done (some .ret) d)
 r4:h.get p4=some (.row 1 [[.int .u8 kk]] false)
 r5:h.get p5=some (.row 1 [[.int .i64 gp]] false)
 r6:h.get p6=some (.row 1 [[.int .i64 pl]] false)
 keep:∀ m,m<h0.next→m≠l→m≠p4→m≠p5→m≠p6→h.get m=h0.get m
omit Hh in
theorem WAns.back {l p4 p5 p6 d:Nat} {ts:Zx} {kk gp pl:Nat} {h0 h1 h:Go.Ev.H} (A:WAns l p4 p5 p6 d ts kk gp pl h1 h) (hn:h0.next≤h1.next) (k:∀ m,m<h0.next→h1.get m=h0.get m):WAns l p4 p5 p6 d ts kk gp pl h0 h :=
 ⟨Nat.le_trans hn A.next,A.hl,A.r4,A.r5,A.r6,fun m hm a b c e=>(A.keep m (Nat.lt_of_lt_of_le hm hn) a b c e).trans (k m hm)⟩
theorem WCtx.round {l pb p4 p5 p6 pg gr sz ino jr b d:Nat} {ts:Zx} {h:Go.Ev.H} (W:WCtx l pb p4 p5 p6 pg gr sz ino jr b d ts h) (kk gp fr sz' pl:Nat) (s1:kk<256) (s2:gp<1000000) (s3:fr<1000000) (s4:sz'<1000000) (s5:pl<1000000) (s6:b<9223372036854775808) (s7:fr≤b) :
  ∃ E h' r,Sound K Tryz.prog E∧Jz E l (some [.g (Bf kk gp fr sz' pl)]) h (some (.loop ts 36 [17] (q142 [1,1,0,1,2,5]) (q142 [1,1,0,1,2,6]) .ready none d))=some (.val (.w (.c (.bool r))) h') ∧
   (fr+sz'≤b→r=true∧h.next≤h'.next∧∀ m,m<h.next→h'.get m=h.get m)∧(b<fr+sz'→r=false∧WAns l p4 p5 p6 d ts kk gp (pl+b - fr) h h'):=by
 obtain⟨d1,d2,d3,d4,d5,d6,l4,l5,l6,lb,b4,b5,b6,bb,bl,bg,e3,e4,e5,e6,hl,hb,⟨x4,r4⟩,⟨x5,r5⟩,⟨x6,r6⟩,hg⟩:=W
 obtain⟨E,h',r,S,rnd,n,go,st⟩:=Zw7 Hh l ts pb p4 p5 p6 kk gp fr sz' pl b d h x4 x5 x6 s1 s2 s3 s4 s5 s6 s7 d1 d2 d3 d4 d5 d6 l4 l5 l6 lb b4 b5 b6 bb bl e3 e4 e5 e6 hl hb r4 r5 r6
 rw[hl] at rnd
 refine⟨E,h',r,S,rnd,fun h9=>⟨(go h9).1,n,(go h9).2⟩,fun h9=>?_⟩
 obtain⟨rr,k1,k2,k3,k4,k5⟩:=st h9
 exact⟨rr,n,k1,k2,k3,k4,k5⟩
def Zox (jr:Nat):Nat→Nat × Nat × Nat × Nat × Nat
 | 0=>(1,0,0,1,0)
 | 1=>(2,0,1,1,0)
 | _=>(3,0,2,jr,0)
def Z7a (jr:Nat):List C:=[.int .u8 1,.int .i64 0,.int .i64 0,.int .i64 1,.int .i64 0,.int .u8 2,.int .i64 0,.int .i64 1,.int .i64 1,.int .i64 0,.int .u8 3,.int .i64 0,.int .i64 2,.int .i64 jr,.int .i64 0]
def Zvc (p:Nat × Nat × Nat × Nat × Nat):List C:=Bf p.1 p.2.1 p.2.2.1 p.2.2.2.1 p.2.2.2.2
def Zbd (jr:Nat):Nat→Nat
 | 0=>0
 | 1=>1
 | 2=>2
 | _=>2+jr
theorem Zxi {l pb p4 p5 p6 pg gr sz ino jr b d:Nat} {tl:Zx} (F:Fine gr sz ino jr) (s6:b<9223372036854775808):∀ (k i:Nat) (ts:Zx) (h:Go.Ev.H),i+k=3→Zbd jr i≤b→WCtx l pb p4 p5 p6 pg gr sz ino jr b d tl h→Zh ts 0=.w (.c (.yield l))→Zh ts 21=.w (.g (Z7a jr))→Zh ts 22=.w (.c (.int .i64 i)) →
  Ye 79 none (q226 [1,1,0,1,2]) [] ts h fun x ds' ts' h'=>ds'=[]∧(∀ s,s≤3→Zh ts' s=Zh ts s)∧((x=.exit 0∧2+jr≤b∧h.next≤h'.next∧∀ m,m<h.next→h'.get m=h.get m) ∨
   (x=.ret∧∃ q,q<3∧Zbd jr q≤b∧b<Zbd jr (q+1)∧WAns l p4 p5 p6 d tl (Zox jr q).1 0 (b - Zbd jr q) h h')):=by
 obtain⟨g1,g2,g3,g4,g5,g6,g7,g8,g9,g10,g11⟩:=F
 intro k
 induction k with
 | zero =>
  intro i ts h hi hbe W e0 e21 e22
  obtain rfl:i=3:=by omega
  have Jf:=@e22
  iterate 6 (first|apply Zk|apply Ux|apply Je|refine Goes.Zi Zj ?_|refine Zq Hh Za Zj ?_)
  refine⟨rfl,fun s hs=>?_,.inl ⟨rfl,hbe,Nat.le_refl _,fun _ _=>rfl⟩⟩
  simp (decide:=true) only [Yz hs]
 | succ k ih =>
  intro i ts h hi hbe W e0 e21 e22
  obtain⟨kk,gp,fr,sz',pl,hP⟩:∃ kk gp fr sz' pl,Zox jr i=(kk,gp,fr,sz',pl):=⟨_,_,_,_,_,rfl⟩
  have hi3:i=0∨i=1∨i=2:=by omega
  have hx:Zlh K (some ti324) (Z7a jr) (some i)=some (.g (Bf kk gp fr sz' pl))∧kk<256∧gp=0∧fr=Zbd jr i∧fr+sz'=Zbd jr (i+1)∧pl=0∧fr<1000000∧sz'<1000000:=by
   rcases hi3 with rfl|rfl|rfl<;>(simp only[Zox,Prod.mk.injEq] at hP; obtain⟨rfl,rfl,rfl,rfl,rfl⟩:=hP; exact⟨by kernel_rfl,by omega,rfl,rfl,rfl,rfl,by omega,by omega⟩)
  obtain⟨idx,k1,rfl,k3,k4,rfl,k6,k7⟩:=hx
  have W2:=W.move (h':=(h.new (.row 5 [[.int .u8 0,.int .i64 0,.int .i64 0,.int .i64 0,.int .i64 0]] false)).put h.next (.row 5 [Bf kk 0 fr sz' 0] false)) (by rw[H.Zd,H.Zb]; omega) (fun m hm=>by rw[Ze (by omega),Z8 (by omega)])
  obtain⟨E,h2,r,S,rnd,go,st⟩:=WCtx.round Hh W2 kk 0 fr sz' 0 k1 (by omega) k6 k7 (by omega) s6 (by omega)
  have hl:=W.hl
  have bl:=W.bl
  have rp:Zn 5 [Bf kk 0 fr sz' 0] 0 5=some (Bf kk 0 fr sz' 0):=rfl
  have lp:(Bf kk 0 fr sz' 0).length=5:=rfl
  have wp:Z4 5 [[.int .u8 0,.int .i64 0,.int .i64 0,.int .i64 0,.int .i64 0]] 0 (Bf kk 0 fr sz' 0)=some [Bf kk 0 fr sz' 0]:=rfl
  by_cases hc:fr+sz'≤b
  ·obtain⟨rfl,n2,q2⟩:=go hc
   have q3:∀ m,m<h.next→h2.get m=h.get m:=fun m hm=>by
    rw[q2 m (by rw[H.Zd,H.Zb]; omega),Ze (by omega),Z8 (by omega)]
   rw[H.Zd,H.Zb] at n2
   have Jf:=Yu @e0 @e21 @e22 @hl @idx @rp @lp @wp @rnd
   iterate 11 (first|apply Zk|apply Zw|apply Yt|apply Je|refine Goes.Zi Gl ?_|refine Zq Hh Za Gl ?_)
   iterate 4 (first|apply Zw|refine Goes.Zi Gl ?_|refine Zq Hh S Gl ?_)
   show Ye 79 none (q226 [1,1,0,1,2]) _ _ _ _
   refine (ih (i+1) _ h2 (by omega) (by omega) (W.move (by omega) q3) ?_ ?_ ?_).mono ?_
   ·simp (decide:=true) only [Zf,reduceIte,e0]
   ·simp (decide:=true) only [Zf,reduceIte,e21]
   ·simp (decide:=true) only [Zf,reduceIte]<;>rfl
   ·rintro x ds' ts' h' ⟨z1,z2,z3⟩
    refine⟨z1,fun s hs=>(z2 s hs).trans (by simp (decide:=true) only [Yz hs]),?_⟩
    rcases z3 with ⟨rfl,y1,y2,y3⟩|⟨rfl,q,y1,y2,y3,y4⟩
    ·exact .inl ⟨rfl,y1,by omega,fun m hm=>(y3 m (by omega)).trans (q3 m hm)⟩
    ·exact .inr ⟨rfl,q,y1,y2,y3,y4.back (by omega) q3⟩
  ·obtain⟨rfl,A⟩:=st (by omega)
   have A2:=A.back (h0:=h) (by rw[H.Zd,H.Zb]; omega) (fun m hm=>by rw[Ze (by omega),Z8 (by omega)])
   have Jf:=Yu @e0 @e21 @e22 @hl @idx @rp @lp @wp @rnd
   iterate 11 (first|apply Zk|apply Zw|apply Yt|apply Je|refine Goes.Zi Gl ?_|refine Zq Hh Za Gl ?_)
   iterate 3 (first|apply Z0|refine Goes.Zi Gl ?_|refine Zq Hh S Gl ?_)
   refine⟨rfl,fun s hs=>?_,.inr ⟨rfl,i,by omega,by omega,by omega,?_⟩⟩
   ·simp (decide:=true) only [Yz hs]
   ·rw[hP,←k3]
    rwa [Nat.zero_add] at A2
def Wm (sz ino jr k:Nat):Nat→Nat
 | 0=>2+jr+k * sz
 | 1=>2+jr+k * sz+1
 | 2=>2+jr+k * sz+2
 | 3=>2+jr+k * sz+2+ino / 4
 | _=>2+jr+k * sz+sz
def Zjr (sz ino jr k:Nat):Nat→Nat × Nat × Nat × Nat × Nat
 | 0=>(4,k,2+jr+k * sz,1,0)
 | 1=>(5,k,2+jr+k * sz+1,1,1)
 | 2=>(6,k,2+jr+k * sz+2,ino / 4,2)
 | _=>(7,k,2+jr+k * sz+2+ino / 4,sz - 2 - ino / 4,2+ino / 4)
def Yak (sz ino jr k:Nat):List C:=Zvc (Zjr sz ino jr k 0)++Zvc (Zjr sz ino jr k 1)++Zvc (Zjr sz ino jr k 2)++Zvc (Zjr sz ino jr k 3)
theorem Z6o {l pb p4 p5 p6 pg gr sz ino jr b d:Nat} {tl:Zx} (F:Fine gr sz ino jr) (s6:b<9223372036854775808) {k0:Nat} (hk0:k0<gr):∀ (k i:Nat) (ts:Zx) (h:Go.Ev.H),i+k=4→Wm sz ino jr k0 i≤b→WCtx l pb p4 p5 p6 pg gr sz ino jr b d tl h→Zh ts 0=.w (.c (.yield l))→Zh ts 69=.w (.g (Yak sz ino jr k0))→Zh ts 70=.w (.c (.int .i64 i)) →
  Ye 79 none (q226 [1,1,1,1,2,2,1,1,0,2,1,1,1,1,2]) [] ts h fun x ds' ts' h'=>ds'=[]∧(∀ s,s≤8∨s=31∨s=32→Zh ts' s=Zh ts s)∧((x=.exit 4∧2+jr+k0 * sz+sz≤b∧h.next≤h'.next∧∀ m,m<h.next→h'.get m=h.get m) ∨
   (x=.ret∧∃ q,q<4∧Wm sz ino jr k0 q≤b∧b<Wm sz ino jr k0 (q+1)∧WAns l p4 p5 p6 d tl (Zjr sz ino jr k0 q).1 k0 (b - Wm sz ino jr k0 0) h h')):=by
 obtain⟨g1,g2,g3,g4,g5,g6,g7,g8,g9,g10,g11⟩:=F
 intro k
 induction k with
 | zero =>
  intro i ts h hi hbe W e0 e69 e70
  obtain rfl:i=4:=by omega
  have Jf:=@e70
  iterate 6 (first|apply Zk|apply Ux|apply Je|refine Goes.Zi Zj ?_|refine Zq Hh Za Zj ?_)
  refine⟨rfl,fun s hs=>?_,.inl ⟨rfl,hbe,Nat.le_refl _,fun _ _=>rfl⟩⟩
  rcases hs with hs|rfl|rfl<;>first|(simp (decide:=true) only [Yz hs])|(simp (decide:=true) only [Zf,reduceIte])
 | succ k ih =>
  intro i ts h hi hbe W e0 e69 e70
  obtain⟨kk,gp,fr,sz',pl,hP⟩:∃ kk gp fr sz' pl,Zjr sz ino jr k0 i=(kk,gp,fr,sz',pl):=⟨_,_,_,_,_,rfl⟩
  have m1:k0 * sz+sz≤gr * sz:=by
   have:=Nat.mul_le_mul_right sz (show k0+1≤gr by omega)
   rw[Nat.add_mul] at this
   omega
  have hi3:i=0∨i=1∨i=2∨i=3:=by omega
  have hx:Zlh K (some ti325) (Yak sz ino jr k0) (some i)=some (.g (Bf kk gp fr sz' pl))∧kk<256∧k0=gp∧fr=Wm sz ino jr k0 i∧fr+sz'=Wm sz ino jr k0 (i+1)∧pl+Wm sz ino jr k0 0=fr∧fr<1000000∧sz'<1000000:=by
   rcases hi3 with rfl|rfl|rfl|rfl<;>(simp only[Zjr,Prod.mk.injEq] at hP; obtain⟨rfl,rfl,rfl,rfl,rfl⟩:=hP; refine⟨by kernel_rfl,by omega,rfl,rfl,?_,?_,?_,?_⟩<;>first|rfl|(simp only[Wm,Nat.reduceAdd,Nat.zero_add]<;>omega)|omega)
  obtain⟨idx,k1,rfl,k3,k4,k5,k6,k7⟩:=hx
  have W2:=W.move (h':=(h.new (.row 5 [[.int .u8 0,.int .i64 0,.int .i64 0,.int .i64 0,.int .i64 0]] false)).put h.next (.row 5 [Bf kk k0 fr sz' pl] false)) (by rw[H.Zd,H.Zb]; omega) (fun m hm=>by rw[Ze (by omega),Z8 (by omega)])
  obtain⟨E,h2,r,S,rnd,go,st⟩:=WCtx.round Hh W2 kk k0 fr sz' pl k1 (by omega) k6 k7 (by omega) s6 (by omega)
  have hl:=W.hl
  have bl:=W.bl
  have rp:Zn 5 [Bf kk k0 fr sz' pl] 0 5=some (Bf kk k0 fr sz' pl):=rfl
  have lp:(Bf kk k0 fr sz' pl).length=5:=rfl
  have wp:Z4 5 [[.int .u8 0,.int .i64 0,.int .i64 0,.int .i64 0,.int .i64 0]] 0 (Bf kk k0 fr sz' pl)=some [Bf kk k0 fr sz' pl]:=rfl
  by_cases hc:fr+sz'≤b
  ·obtain⟨rfl,n2,q2⟩:=go hc
   have q3:∀ m,m<h.next→h2.get m=h.get m:=fun m hm=>by
    rw[q2 m (by rw[H.Zd,H.Zb]; omega),Ze (by omega),Z8 (by omega)]
   rw[H.Zd,H.Zb] at n2
   have Jf:=Yu @e0 @e69 @e70 @hl @idx @rp @lp @wp @rnd
   iterate 11 (first|apply Zk|apply Zw|apply Yt|apply Je|refine Goes.Zi Gl ?_|refine Zq Hh Za Gl ?_)
   iterate 4 (first|apply Zw|refine Goes.Zi Gl ?_|refine Zq Hh S Gl ?_)
   show Ye 79 none (q226 [1,1,1,1,2,2,1,1,0,2,1,1,1,1,2]) _ _ _ _
   refine (ih (i+1) _ h2 (by omega) (by omega) (W.move (by omega) q3) ?_ ?_ ?_).mono ?_
   ·simp (decide:=true) only [Zf,reduceIte,e0]
   ·simp (decide:=true) only [Zf,reduceIte,e69]
   ·simp (decide:=true) only [Zf,reduceIte]<;>rfl
   ·rintro x ds' ts' h' ⟨z1,z2,z3⟩
    refine⟨z1,fun s hs=>(z2 s hs).trans (by rcases hs with hs|rfl|rfl<;>first|(simp (decide:=true) only [Yz hs])|(simp (decide:=true) only [Zf,reduceIte])),?_⟩
    rcases z3 with ⟨rfl,y1,y2,y3⟩|⟨rfl,q,y1,y2,y3,y4⟩
    ·exact .inl ⟨rfl,y1,by omega,fun m hm=>(y3 m (by omega)).trans (q3 m hm)⟩
    ·exact .inr ⟨rfl,q,y1,y2,y3,y4.back (by omega) q3⟩
  ·obtain⟨rfl,A⟩:=st (by omega)
   have A2:=A.back (h0:=h) (by rw[H.Zd,H.Zb]; omega) (fun m hm=>by rw[Ze (by omega),Z8 (by omega)])
   have Jf:=Yu @e0 @e69 @e70 @hl @idx @rp @lp @wp @rnd
   iterate 11 (first|apply Zk|apply Zw|apply Yt|apply Je|refine Goes.Zi Gl ?_|refine Zq Hh Za Gl ?_)
   iterate 3 (first|apply Z0|refine Goes.Zi Gl ?_|refine Zq Hh S Gl ?_)
   refine⟨rfl,fun s hs=>?_,.inr ⟨rfl,i,by omega,by omega,by omega,?_⟩⟩
   ·rcases hs with hs|rfl|rfl<;>first|(simp (decide:=true) only [Yz hs])|(simp (decide:=true) only [Zf,reduceIte])
   ·rw[hP]
    rwa [show pl+b - fr=b - Wm sz ino jr k0 0 by omega] at A2
end
theorem Ycg (a1 a2 a3 a4 a5 b1 b2 b3 b4 b5 c1 c2 c3 c4 c5:C):Yo K 324 (some [(0,.g [a1,a2,a3,a4,a5]),(1,.g [b1,b2,b3,b4,b5]),(2,.g [c1,c2,c3,c4,c5])])=some (.g [a1,a2,a3,a4,a5,b1,b2,b3,b4,b5,c1,c2,c3,c4,c5]):=by kernel_rfl
theorem Ycd (a1 a2 a3 a4 a5 b1 b2 b3 b4 b5 c1 c2 c3 c4 c5 d1 d2 d3 d4 d5:C):Yo K 325 (some [(0,.g [a1,a2,a3,a4,a5]),(1,.g [b1,b2,b3,b4,b5]),(2,.g [c1,c2,c3,c4,c5]),(3,.g [d1,d2,d3,d4,d5])])=some (.g [a1,a2,a3,a4,a5,b1,b2,b3,b4,b5,c1,c2,c3,c4,c5,d1,d2,d3,d4,d5]):=by kernel_rfl
theorem wrP {x y:List C} {n:Nat} (hx:x.length=n) (hy:y.length=n) (h:0<n):Z4 n [x] 0 y=some [y]:=by
 subst hy
 exact Xg h hx
theorem rdP {x:List C} {n:Nat} (hx:x.length=n) (h:0<n):Zn n [x] 0 n=some x:=by
 subst hx
 exact Qj h
section
variable (Hh:Hearts K Tryz.prog)
include Hh
set_option maxHeartbeats 4000000 in
theorem Z1f {l pb p4 p5 p6 pg gr sz ino jr b d:Nat} {tl:Zx} (F:Fine gr sz ino jr) (s6:b<9223372036854775808):∀ (m k:Nat) (ts:Zx) (h:Go.Ev.H),k+m=gr→2+jr+k * sz≤b→WCtx l pb p4 p5 p6 pg gr sz ino jr b d tl h→Zh ts 0=.w (.c (.yield l))→Zh ts 1=.w (.c (.ptr pg 0))→Zh ts 3=.w (.c (.int .i64 ((ino / 4:Nat):Int)))→Zh ts 31=.w (.c (.int .i64 gr))→Zh ts 32=.w (.c (.int .i64 k)) →
  Ye 79 none (q226 [1,1,1,1,2]) [] ts h fun x ds' ts' h'=>ds'=[]∧((x=.exit 2∧2+jr+gr * sz≤b∧h.next≤h'.next∧∀ m,m<h.next→h'.get m=h.get m) ∨
   (x=.ret∧∃ k0 q,k0<gr∧q<4∧Wm sz ino jr k0 q≤b∧b<Wm sz ino jr k0 (q+1)∧WAns l p4 p5 p6 d tl (Zjr sz ino jr k0 q).1 k0 (b - Wm sz ino jr k0 0) h h')):=by
 have F':=F
 obtain⟨g1,g2,g3,g4,g5,g6,g7,g8,g9,g10,g11⟩:=F'
 intro m
 induction m with
 | zero =>
  intro k ts h hk hb W e0 e1 e3 e31 e32
  obtain rfl:k=gr:=by omega
  have Jf:=Yy @e31 @e32
  iterate 6 (first|apply Zk|apply Ux|apply Je|refine Goes.Zi Zj ?_|refine Zq Hh Za Zj ?_)
  exact⟨rfl,.inl ⟨rfl,hb,Nat.le_refl _,fun _ _=>rfl⟩⟩
 | succ m ih =>
  intro k ts h hk hb W e0 e1 e3 e31 e32
  have hk0:k<gr:=by omega
  have gm:(k:Int) * (sz:Int)=((k * sz:Nat):Int):=rfl
  have b1:k * sz≤gr * sz:=Nat.mul_le_mul (by omega) (by omega)
  have n1:(2:Int)+(jr:Int)=((2+jr:Nat):Int):=rfl
  have n2:((2+jr:Nat):Int)+((k * sz:Nat):Int)=((2+jr+k * sz:Nat):Int):=rfl
  have n3:((2+jr+k * sz:Nat):Int)+1=((2+jr+k * sz+1:Nat):Int):=rfl
  have n4:((2+jr+k * sz:Nat):Int)+2=((2+jr+k * sz+2:Nat):Int):=rfl
  have n5:((2+jr+k * sz+2:Nat):Int)+((ino / 4:Nat):Int)=((2+jr+k * sz+2+ino / 4:Nat):Int):=rfl
  have n6:(sz:Int) - 2=((sz - 2:Nat):Int):=by omega
  have n7:((sz - 2:Nat):Int) - ((ino / 4:Nat):Int)=((sz - 2 - ino / 4:Nat):Int):=by omega
  have n8:(2:Int)+((ino / 4:Nat):Int)=((2+ino / 4:Nat):Int):=rfl
  have hg:=W.hg
  have bg:=W.bg
  have bl:=W.bl
  iterate 17 (first|apply Zk|apply Zw|apply Yt|apply Je|((first|apply Goes.Zi|apply Goes.ops2 fits Hh Za); · simp (maxSteps:=9^6) +decide (disch:=first|omega|(simp only[lens]<;>omega)|decide) only [go_sem,Zm,simprocAttr,e0,e1,e3,e31,e32,hg,Jk,gm,n1,n2,n3,n4,n5,n6,n7,n8,Ycd,wrP,rdP,read1]<;>rfl))
  refine (Z6o Hh F s6 hk0 4 0 _ _ (by omega) (by show 2+jr+k * sz≤b; omega) (W.move ?_ ?_) ?_ ?_ ?_).mono ?_
  ·simp only[H.Zd,H.Zb]<;>omega
  ·intro m' hm
   rw[Ze (by omega),Z8 (by omega)]
  ·simp (decide:=true) only [Zf,reduceIte,e0]
  ·simp (decide:=true) only [Zf,reduceIte]<;>rfl
  ·simp (decide:=true) only [Zf,reduceIte]<;>rfl
  rintro x ds' ts' h' ⟨rfl,tsk,⟨rfl,y1,y2,y3⟩|⟨rfl,q,y1,y2,y3,y4⟩⟩
  ·have f0:Zh ts' 0=.w (.c (.yield l)):=(tsk 0 (.inl (by decide))).trans (by simp (decide:=true) only [Zf,reduceIte,e0])
   have f1:Zh ts' 1=.w (.c (.ptr pg 0)):=(tsk 1 (.inl (by decide))).trans (by simp (decide:=true) only [Zf,reduceIte,e1])
   have f3:Zh ts' 3=.w (.c (.int .i64 ((ino / 4:Nat):Int))):=(tsk 3 (.inl (by decide))).trans (by simp (decide:=true) only [Zf,reduceIte,e3])
   have f31:Zh ts' 31=.w (.c (.int .i64 gr)):=(tsk 31 (.inr (.inl rfl))).trans (by simp (decide:=true) only [Zf,reduceIte,e31])
   have f32:Zh ts' 32=.w (.c (.int .i64 k)):=(tsk 32 (.inr (.inr rfl))).trans (by simp (decide:=true) only [Zf,reduceIte,e32])
   simp only[H.Zd,H.Zb] at y2 y3
   have y4:∀ m,m<h.next→h'.get m=h.get m:=fun m' hm=>by
    rw[y3 m' (by omega),Ze (by omega),Z8 (by omega)]
   have mu:(k+1) * sz=k * sz+sz:=by rw[Nat.add_mul,Nat.one_mul]
   have Jf:=U1 @f0 @f1 @f3 @f31 @f32
   refine Zq Hh Za Zj ?_
   show Ye 79 none (q226 [1,1,1,1,2]) _ _ _ _
   refine (ih (k+1) _ h' (by omega) (by omega) (W.move (by omega) y4) ?_ ?_ ?_ ?_ ?_).mono ?_
   ·simp (decide:=true) only [Zf,reduceIte,f0]
   ·simp (decide:=true) only [Zf,reduceIte,f1]
   ·simp (decide:=true) only [Zf,reduceIte,f3]
   ·simp (decide:=true) only [Zf,reduceIte,f31]
   ·simp (decide:=true) only [Zf,reduceIte]<;>rfl
   rintro x ds' ts2 h2 ⟨z1,z3⟩
   refine⟨z1,?_⟩
   rcases z3 with ⟨rfl,z4,z5,z6⟩|⟨rfl,k0,q,z4,z5,z6,z7,z8⟩
   ·exact .inl ⟨rfl,z4,by omega,fun m' hm=>(z6 m' (by omega)).trans (y4 m' hm)⟩
   ·exact .inr ⟨rfl,k0,q,z4,z5,z6,z7,z8.back (by omega) y4⟩
  ·exact⟨rfl,.inr ⟨rfl,k,q,hk0,y1,y2,y3,y4.back (by simp only[H.Zd,H.Zb]<;>omega) (fun m' hm=>by rw[Ze (by omega),Z8 (by omega)])⟩⟩
def U7 (gr sz ino jr b:Nat):Nat × Nat × Nat :=
 if b=0 then (1,0,0) else if b=1 then (2,0,0) else if b<2+jr then (3,0,b - 2) else if 2+jr+gr * sz≤b then (0,0,0)
 else ((if (b - 2 - jr) % sz=0 then 4 else if (b - 2 - jr) % sz=1 then 5 else if (b - 2 - jr) % sz<2+ino / 4 then 6 else 7),(b - 2 - jr) / sz,(b - 2 - jr) % sz)
omit Hh in
theorem Zrm {gr sz ino jr b q:Nat} (F:Fine gr sz ino jr) (hq:q<3) (h1:Zbd jr q≤b) (h2:b<Zbd jr (q+1)):U7 gr sz ino jr b=((Zox jr q).1,0,b - Zbd jr q):=by
 obtain⟨g1,g2,g3,g4,g5,g6,g7,g8,g9,g10,g11⟩:=F
 have:q=0∨q=1∨q=2:=by omega
 unfold U7
 rcases this with rfl|rfl|rfl<;>simp only[Zbd,Zox,Nat.reduceAdd] at h1 h2 ⊢
 ·obtain rfl:b=0:=by omega
  rfl
 ·obtain rfl:b=1:=by omega
  rfl
 ·rw[if_neg (by omega),if_neg (by omega),if_pos (by omega)]
omit Hh in
theorem Zpt {gr sz ino jr b k q:Nat} (F:Fine gr sz ino jr) (hk:k<gr) (hq:q<4) (h1:Wm sz ino jr k q≤b) (h2:b<Wm sz ino jr k (q+1)):U7 gr sz ino jr b=((Zjr sz ino jr k q).1,k,b - Wm sz ino jr k 0):=by
 obtain⟨g1,g2,g3,g4,g5,g6,g7,g8,g9,g10,g11⟩:=F
 have m1:k * sz+sz≤gr * sz:=by
  have:=Nat.mul_le_mul_right sz (show k+1≤gr by omega)
  rw[Nat.add_mul] at this
  omega
 have e0:Wm sz ino jr k 0=2+jr+k * sz:=rfl
 have r1:2+jr+k * sz≤b∧b<2+jr+k * sz+sz:=by
  have:q=0∨q=1∨q=2∨q=3:=by omega
  rcases this with rfl|rfl|rfl|rfl<;>simp only[Wm,Nat.reduceAdd] at h1 h2<;>omega
 obtain⟨p,hp⟩:∃ p,b=2+jr+k * sz+p:=⟨b - (2+jr+k * sz),by omega⟩
 have hps:p<sz:=by omega
 have d1:b - 2 - jr=p+k * sz:=by omega
 have d2:(b - 2 - jr) / sz=k:=by rw[d1,Nat.add_mul_div_right _ _ (by omega),Nat.div_eq_of_lt hps,Nat.zero_add]
 have d3:(b - 2 - jr) % sz=p:=by rw[d1,Nat.add_mul_mod_self_right,Nat.mod_eq_of_lt hps]
 unfold U7
 rw[if_neg (by omega),if_neg (by omega),if_neg (by omega),if_neg (by omega),d2,d3,e0]
 have:q=0∨q=1∨q=2∨q=3:=by omega
 rcases this with rfl|rfl|rfl|rfl<;>simp only[Wm,Zjr,Nat.reduceAdd] at h1 h2 ⊢
 ·rw[if_pos (by omega)]; congr 2; omega
 ·rw[if_neg (by omega),if_pos (by omega)]; congr 2; omega
 ·rw[if_neg (by omega),if_neg (by omega),if_pos (by omega)]; congr 2; omega
 ·rw[if_neg (by omega),if_neg (by omega),if_neg (by omega)]; congr 2; omega
end
section
variable (Hh:Hearts K Tryz.prog)
include Hh
theorem Z36 (gr sz ino jr:Nat) (h:Go.Ev.H):Zg 188 [.g (Jk gr sz ino jr)] h (.w (.c (.fn 226 [] [some (h.next,0)]))) (h.new (.row 4 [Jk gr sz ino jr] false)):=by
 refine fnG Hh Tryz.f188 ?_
 iterate 5 (first|apply Zk|apply Z0|(apply Goes.ops2 fits Hh Za; · simp (maxSteps:=9^6) +decide (disch:=first|omega|(simp only[lens]<;>omega)|decide) only [go_sem,Zn,Zm,simprocAttr,Yf,Jk]<;>rfl))
 simp (maxSteps:=9^6) +decide (disch:=first|omega|(simp only[lens]<;>omega)|decide) only [go_sem,Zn,Zm,simprocAttr,Yf,Jk]<;>rfl
set_option maxHeartbeats 4000000 in
theorem Zgb {l pb p4 p5 p6 pg gr sz ino jr b d:Nat} {tl:Zx} (F:Fine gr sz ino jr) (s6:b<9223372036854775808) {h:Go.Ev.H} (W:WCtx l pb p4 p5 p6 pg gr sz ino jr b d tl h) :
  ∃ v h',Zg 226 [.c (.yield l),.c (.ptr pg 0)] h v h'∧((2+jr+gr * sz≤b∧h.next≤h'.next∧∀ m,m<h.next→h'.get m=h.get m)∨WAns l p4 p5 p6 d tl (U7 gr sz ino jr b).1 (U7 gr sz ino jr b).2.1 (U7 gr sz ino jr b).2.2 h h'):=by
 have F':=F
 obtain⟨g1,g2,g3,g4,g5,g6,g7,g8,g9,g10,g11⟩:=F'
 have hg:=W.hg
 have bg:=W.bg
 have bl:=W.bl
 have q1:Mk .i64 (ino:Int) 4=some (.int .i64 ((ino / 4:Nat):Int)):=Ea (b:=4) (by omega) (by omega)
 refine Yg Hh Tryz.f226 ?_
 iterate 8 (first|apply Zk|apply Yt|(apply Goes.ops2 fits Hh Za; · simp (maxSteps:=9^6) +decide (disch:=first|omega|(simp only[lens]<;>omega)|decide) only [go_sem,Zm,simprocAttr,hg,Jk,q1,Ycg,wrP,rdP,read1]<;>rfl))
 refine (Zxi Hh F s6 3 0 _ _ (by omega) (Nat.zero_le _) (W.move ?_ ?_) ?_ ?_ ?_).mono ?_
 ·simp only[H.Zd,H.Zb]<;>omega
 ·intro m' hm
  rw[Ze (by omega),Z8 (by omega)]
 ·simp (decide:=true) only [Zf,reduceIte,Oj,List.getElem?_cons_zero]
 ·simp (decide:=true) only [Zf,reduceIte]<;>rfl
 ·simp (decide:=true) only [Zf,reduceIte]<;>rfl
 rintro x ds' ts' h' ⟨rfl,tsk,⟨rfl,y1,y2,y3⟩|⟨rfl,q,y1,y2,y3,y4⟩⟩
 ·have f0:Zh ts' 0=.w (.c (.yield l)):=(tsk 0 (by decide)).trans (by simp (decide:=true) only [Zf,reduceIte,Oj,List.getElem?_cons_zero])
  have f1:Zh ts' 1=.w (.c (.ptr pg 0)):=(tsk 1 (by decide)).trans (by simp (decide:=true) only [Zf,reduceIte,Oj,List.getElem?_cons_succ,List.getElem?_cons_zero])
  have f3:Zh ts' 3=.w (.c (.int .i64 ((ino / 4:Nat):Int))):=(tsk 3 (by decide)).trans (by simp (decide:=true) only [Zf,reduceIte])
  simp only[H.Zd,H.Zb] at y2 y3
  have y4:∀ m,m<h.next→h'.get m=h.get m:=fun m' hm=>by
   rw[y3 m' (by omega),Ze (by omega),Z8 (by omega)]
  have W2:=W.move (by omega) y4
  have hg2:=W2.hg
  iterate 3 (first|apply Zk|apply Yt|(apply Goes.ops2 fits Hh Za; · simp (maxSteps:=9^6) +decide (disch:=first|omega|(simp only[lens]<;>omega)|decide) only [go_sem,Zn,Zm,simprocAttr,f0,f1,f3,hg2,Jk,read1]<;>rfl))
  refine (Z1f Hh F s6 gr 0 _ _ (by omega) (by omega) W2 ?_ ?_ ?_ ?_ ?_).mono ?_
  ·simp (decide:=true) only [Zf,reduceIte,f0]
  ·simp (decide:=true) only [Zf,reduceIte,f1]
  ·simp (decide:=true) only [Zf,reduceIte,f3]
  ·simp (decide:=true) only [Zf,reduceIte]
  ·simp (decide:=true) only [Zf,reduceIte]<;>rfl
  rintro x ds' ts2 h2 ⟨rfl,⟨rfl,z4,z5,z6⟩|⟨rfl,k0,q,z4,z5,z6,z7,z8⟩⟩
  ·
   exact⟨_,_,Zc,.inl ⟨z4,by omega,fun m hm=>(z6 m (by omega)).trans (y4 m hm)⟩⟩
  ·refine⟨_,_,Zc,.inr ?_⟩
   rw[Zpt F z4 z5 z6 z7]
   exact z8.back (by omega) y4
 ·refine⟨_,_,Zc,.inr ?_⟩
  rw[Zrm F y1 y2 y3]
  exact y4.back (by simp only[H.Zd,H.Zb]<;>omega) (fun m hm=>by rw[Ze (by omega),Z8 (by omega)])
theorem Zzq {gr sz ino jr b pb p4 p5 p6 pg:Nat} (F:Fine gr sz ino jr) (s6:b<9223372036854775808) (ts:Zx) (h:Go.Ev.H) (d1:p4≠p5) (d2:p4≠p6) (d3:p5≠p6) (d4:pb≠p4) (d5:pb≠p5) (d6:pb≠p6) (b4:p4<h.next) (b5:p5<h.next) (b6:p6<h.next) (bb:pb<h.next) (bg:pg<h.next)
  (e3:Zh ts 3=.w (.c (.ptr pb 0))) (e4:Zh ts 4=.w (.c (.ptr p4 0))) (e5:Zh ts 5=.w (.c (.ptr p5 0))) (e6:Zh ts 6=.w (.c (.ptr p6 0))) (e16:Zh ts 16=.w (.c (.fn 226 [] [some (pg,0)])))
  (hb:h.get pb=some (.row 1 [[.int .i64 b]] false)) (r4:∃ x,h.get p4=some (.row 1 [[x]] false)) (r5:∃ x,h.get p5=some (.row 1 [[x]] false)) (r6:∃ x,h.get p6=some (.row 1 [[x]] false)) (hg:h.get pg=some (.row 4 [Jk gr sz ino jr] false)) :
  Ye 36 none (q142 [1,1,0,1,2]) [] ts h fun x ds' ts' h'=>ts'=ts∧ds'=[h.next]∧h'.get h.next=some .defers∧((x=.normal∧U7 gr sz ino jr b=(0,0,0)∧∀ m,m<h.next→h'.get m=h.get m) ∨
   (x=.ret∧h'.get p4=some (.row 1 [[.int .u8 (U7 gr sz ino jr b).1]] false)∧h'.get p5=some (.row 1 [[.int .i64 (U7 gr sz ino jr b).2.1]] false)∧h'.get p6=some (.row 1 [[.int .i64 (U7 gr sz ino jr b).2.2]] false)∧∀ m,m<h.next→m≠p4→m≠p5→m≠p6→h'.get m=h.get m)):=by
 have g0:∀ (o:O) m,m<h.next→((h.new .defers).new o).get m=h.get m:=fun o m hm=>by rw[Z8 (by rw[H.Zb]; omega),Z8 (by omega)]
 have W:WCtx (h.next+1) pb p4 p5 p6 pg gr sz ino jr b h.next ts ((h.new .defers).new (.loop ts 36 [17] (q142 [1,1,0,1,2,5]) (q142 [1,1,0,1,2,6]) .ready none h.next)) :=
  ⟨d1,d2,d3,d4,d5,d6,by omega,by omega,by omega,by omega,by simp only[H.Zb]; omega,by simp only[H.Zb]; omega,by simp only[H.Zb]; omega,by simp only[H.Zb]; omega,by simp only[H.Zb]; omega,by simp only[H.Zb]; omega,e3,e4,e5,e6,
   by rw[Jv (by simp only[H.Zb]<;>omega)],by rw[g0 _ _ bb]; exact hb,by rw[g0 _ _ b4]; exact r4,by rw[g0 _ _ b5]; exact r5,by rw[g0 _ _ b6]; exact r6,by rw[g0 _ _ bg]; exact hg⟩
 have gd:∀ o:O,((h.new .defers).new o).get h.next=some .defers:=fun o=>by rw[Z8 (by rw[H.Zb]; omega),U8]
 rw[Zt0]
 refine Goes.Zbq fits Hh (f:=226) (first:=[]) (caps:=[some (pg,0)]) (by simp only[Z6,Y2,e16,asC]) (exE (Zgb Hh F s6 W) ?_)
 rintro v h3 (⟨w1,w2,w3⟩|A)
 ·simp only[H.Zb] at w2 w3
  have hN:U7 gr sz ino jr b=(0,0,0):=by
   obtain⟨g1,g2,g3,g4,g5,g6,g7,g8,g9,g10,g11⟩:=F
   unfold U7
   rw[if_neg (by omega),if_neg (by omega),if_neg (by omega),if_pos w1]
  refine⟨_,_,_,_,_,_,_,_,(w3 _ (by omega)).trans W.hl,by simp,?_⟩
  show _∧_∧_
  refine⟨rfl,rfl,?_,.inl ⟨rfl,hN,fun m hm=>?_⟩⟩
  ·rw[Ze (by omega),w3 _ (by omega),gd]
  ·rw[Ze (by omega),w3 _ (by omega),g0 _ _ hm]
 ·have kp:=A.keep
  simp only[H.Zb] at kp
  refine⟨_,_,_,_,_,_,_,_,A.hl,by simp,?_⟩
  show _∧_∧_
  refine⟨rfl,rfl,?_,.inr ⟨rfl,?_,?_,?_,fun m hm n4 n5 n6=>?_⟩⟩
  ·rw[Ze (by omega),kp _ (by omega) (by omega) (by omega) (by omega) (by omega),gd]
  ·rw[Ze (by omega),A.r4]
  ·rw[Ze (by omega),A.r5]
  ·rw[Ze (by omega),A.r6]
  ·rw[Ze (by omega),kp _ (by omega) (by omega) n4 n5 n6,g0 _ _ hm]
set_option maxHeartbeats 4000000 in
theorem Zoa {gr sz ino jr:Nat} (F:Fine gr sz ino jr) (h:Go.Ev.H) (b:Nat) (s6:b<9223372036854775808):Zg 142 [.g (Jk gr sz ino jr),.c (.int .i64 b)] h (.tup [.c (.int .u8 ((U7 gr sz ino jr b).1:Nat)),.c (.int .i64 ((U7 gr sz ino jr b).2.1:Nat)),.c (.int .i64 ((U7 gr sz ino jr b).2.2:Nat))]) h:=by
 obtain⟨v,h',c,rfl,hk⟩:∃ v h',Zg 142 [.g (Jk gr sz ino jr),.c (.int .i64 b)] h v h'∧v=.tup [.c (.int .u8 ((U7 gr sz ino jr b).1:Nat)),.c (.int .i64 ((U7 gr sz ino jr b).2.1:Nat)),.c (.int .i64 ((U7 gr sz ino jr b).2.2:Nat))]∧∀ m,m<h.next→h'.get m=h.get m:=by
  refine Yg Hh Tryz.f142 ?_
  iterate 4 (first|apply Zk|(apply Goes.ops2 fits Hh Za; · simp (maxSteps:=9^6) +decide (disch:=first|omega|(simp only[lens]<;>omega)|decide) only [go_sem,Zn,Zm,simprocAttr,Jk,read1,Yf]<;>rfl))
  iterate 5 (first|apply Zk|apply Zw|((first|apply Goes.Zi|apply Goes.ops2 fits Hh (Yp Za (Zlu Hh F))); · simp (maxSteps:=9^6) +decide (disch:=first|omega|(simp only[lens]<;>omega)|decide) only [go_sem,Zn,Zm,simprocAttr,Jk,read1,Yf]<;>rfl))
  iterate 2 (first|apply Yt|(apply Goes.ops2 fits Hh (Yp Za (Z36 Hh gr sz ino jr)); · simp (maxSteps:=9^6) +decide (disch:=first|omega|(simp only[lens]<;>omega)|decide) only [go_sem,Zn,Zm,simprocAttr,Jk,read1,Yf]<;>rfl))
  refine (Zzq Hh F s6 _ _ (pb:=h.next+1) (p4:=h.next+1+1) (p5:=h.next+1+1+1) (p6:=h.next+1+1+1+1) (pg:=h.next+1+1+1+1+1) (by omega) (by omega) (by omega) (by omega) (by omega) (by omega) (by simp only[H.Zb]<;>omega) (by simp only[H.Zb]<;>omega) (by simp only[H.Zb]<;>omega) (by simp only[H.Zb]<;>omega) (by simp only[H.Zb]<;>omega) Zc Zc Zc Zc Zc Zc ⟨_,by exact Zc⟩ ⟨_,by exact Zc⟩ ⟨_,by exact Zc⟩ Zc).mono ?_
  rintro x ds' ts' h' ⟨rfl,rfl,gd,⟨rfl,hN,kp⟩|⟨rfl,r4,r5,r6,kp⟩⟩
  ·simp only[H.Zb] at gd kp
   have k4:=(kp (h.next+1+1) (by omega)).trans (show _=some (.row 1 [[.int .u8 0]] false) by simp (maxSteps:=9^6) +decide (disch:=first|omega|(simp only[lens]<;>omega)|decide) only [go_sem,Zn,Zm,simprocAttr])
   have k5:=(kp (h.next+1+1+1) (by omega)).trans (show _=some (.row 1 [[.int .i64 0]] false) by simp (maxSteps:=9^6) +decide (disch:=first|omega|(simp only[lens]<;>omega)|decide) only [go_sem,Zn,Zm,simprocAttr])
   have k6:=(kp (h.next+1+1+1+1) (by omega)).trans (show _=some (.row 1 [[.int .i64 0]] false) by simp (maxSteps:=9^6) +decide (disch:=first|omega|(simp only[lens]<;>omega)|decide) only [go_sem,Zn,Zm,simprocAttr])
   have Jf:=Uq @k4 @k5 @k6 @gd
   iterate 3 (first|apply Zk|apply Z0|refine Zq Hh Za Zcz ?_)
   refine⟨_,_,Yq,by rw[hN]<;>rfl,fun m hm=>?_⟩
   simp (maxSteps:=9^6) +decide (disch:=first|omega|(simp only[lens]<;>omega)|decide) only [go_sem,Zn,Zm,simprocAttr]
   rw[kp m (by omega)]
   simp (maxSteps:=9^6) +decide (disch:=first|omega|(simp only[lens]<;>omega)|decide) only [go_sem,Zn,Zm,simprocAttr]
  ·simp only[H.Zb] at gd kp
   refine⟨_,_,(by have Jf:=Uq @gd @r4 @r5 @r6; exact Yq),rfl,fun m hm=>?_⟩
   simp (maxSteps:=9^6) +decide (disch:=first|omega|(simp only[lens]<;>omega)|decide) only [go_sem,Zn,Zm,simprocAttr]
   rw[kp m (by omega) (by omega) (by omega) (by omega)]
   simp (maxSteps:=9^6) +decide (disch:=first|omega|(simp only[lens]<;>omega)|decide) only [go_sem,Zn,Zm,simprocAttr]
 exact Zy.quiet c rfl hk
theorem Z6u {gr sz ino jr:Nat} (F:Fine gr sz ino jr) (h:Go.Ev.H) (z:Int) (hz:z<0):Zg 142 [.g (Jk gr sz ino jr),.c (.int .i64 z)] h (.tup [.c (.int .u8 0),.c (.int .i64 0),.c (.int .i64 0)]) h:=by
 obtain⟨v,h',c,rfl,hk⟩:∃ v h',Zg 142 [.g (Jk gr sz ino jr),.c (.int .i64 z)] h v h'∧v=.tup [.c (.int .u8 0),.c (.int .i64 0),.c (.int .i64 0)]∧∀ m,m<h.next→h'.get m=h.get m:=by
  refine Yg Hh Tryz.f142 ?_
  iterate 4 (first|apply Zk|(apply Goes.ops2 fits Hh Za; · simp (maxSteps:=9^6) +decide (disch:=first|omega|(simp only[lens]<;>omega)|decide) only [go_sem,Zn,Zm,simprocAttr,Jk,read1,Yf,Z4]<;>rfl))
  iterate 5 (first|apply Zk|apply Z0|((first|apply Goes.Zi|apply Goes.ops2 fits Hh (Yp Za (Zlu Hh F))); · simp (maxSteps:=9^6) +decide (disch:=first|omega|(simp only[lens]<;>omega)|decide) only [go_sem,Zn,Zm,simprocAttr,Jk,read1,Yf,Z4]<;>rfl))
  refine⟨_,_,Zsu,rfl,fun m hm=>by exact Yc⟩
 exact Zy.quiet c rfl hk
end
end Go.Proofs.YtecakmodlkbnaaaGreatDoor
