/- geo.May and geo.Blocks, of a geometry that may be. -/
import Derived.Test.YtdkcjalmhdofcaaGreatDoorRGeo
import Derived.Test.YtdkcjalmhdofcaaGreatDoorEvC
set_option linter.unusedSimpArgs false
set_option linter.unusedVariables false
set_option linter.unusedSectionVars false
set_option maxRecDepth 100000
namespace Go.Proofs.YtdkcjalmhdofcaaGreatDoor
open Go.Ev
theorem ty3:K.types.get 3=some ti3:=by kernel_rfl
theorem sz3:ti3.size=1:=by rfl
theorem ag3:ti3.agg=false:=by rfl
theorem de3:ti3.desc=(.int .i64):=by rfl
theorem ze3:ti3.zero=(.c (.int .i64 0)):=by rfl
theorem by3:ti3.bytes=8:=by rfl
theorem ke3 (k:IntKind) (n:Int):Bn K 20 3 (.c (.int k n))=true:=by kernel_rfl
theorem ty4:K.types.get 4=some ti4:=by kernel_rfl
theorem sz4:ti4.size=1:=by rfl
theorem ag4:ti4.agg=false:=by rfl
theorem de4:ti4.desc=.bool:=by rfl
theorem ze4:ti4.zero=(.c (.bool false)):=by rfl
theorem by4:ti4.bytes=1:=by rfl
theorem ty24:K.types.get 24=some ti24:=by kernel_rfl
theorem sz24:ti24.size=4:=by rfl
theorem ag24:ti24.agg=true:=by rfl
theorem fo24_0:Zp K 24 0=some (0,ti3):=by kernel_rfl
theorem fo24_1:Zp K 24 1=some (1,ti3):=by kernel_rfl
theorem fo24_2:Zp K 24 2=some (2,ti3):=by kernel_rfl
theorem fo24_3:Zp K 24 3=some (3,ti3):=by kernel_rfl
theorem bu24 (ps:List (Nat × W)):Z9 K 24 (some ps)=gW (Z5 K 24 ps ti24.zero.cells):=by kernel_rfl
theorem ze24:ti24.zero=(.g ([.int .i64 0,.int .i64 0,.int .i64 0,.int .i64 0])):=by rfl
theorem by24:ti24.bytes=32:=by rfl
attribute [go_sem] ty3 sz3 ag3 de3 ze3 by3 ke3 ty4 sz4 ag4 de4 ze4 by4 ty24 sz24 ag24 fo24_0 fo24_1 fo24_2 fo24_3 bu24 ze24 by24
theorem rs60:Tryz.f60.results.toList=[.tmp 2]:=rfl
theorem rs61:Tryz.f61.results.toList=[.tmp 2]:=rfl
attribute [go_sem] rs60 rs61
section
variable (Hh:Hearts K Tryz.prog)
include Hh
theorem Zis {gr sz ino jr:Nat} (F:Fine gr sz ino jr) (h:Go.Ev.H):Zg K Tryz.prog 60 [.g (Yo gr sz ino jr)] h (.w (.c (.bool true))) h:=by
 obtain⟨g1,g2,g3,g4,g5,g6,g7,g8,g9,g10,g11⟩:=F
 have gm:(gr:Int) * (sz:Int)=((gr * sz:Nat):Int):=rfl
 obtain⟨v,h',c,rfl,hk⟩:∃ v h',Zg K Tryz.prog 60 [.g (Yo gr sz ino jr)] h v h'∧v=.w (.c (.bool true))∧∀ m,m<h.next→h'.get m=h.get m:=by
  refine Zg.Yb fits Hh (by kernel_rfl) (by kernel_rfl) (by kernel_rfl) (show Tryz.f60.body=some _ from rfl) rfl ?_
  repeat (first|apply Goes.seq|apply Goes.block|apply Goes.loop|apply Goes.skip|apply Goes.exit|apply Goes.ret|((first|apply Goes.Zo|apply Goes.ops2 fits Hh Zb); · simp (maxSteps:=9^6) +decide (disch:=first|omega|(simp only[lens]<;>omega)|decide) only [go_sem,Zd,Za,simprocAttr,Yo,gm,read1]<;>rfl))
  refine⟨_,_,(by simp (maxSteps:=9^6) +decide (disch:=first|omega|(simp only[lens]<;>omega)|decide) only [go_sem,Zd,Za,simprocAttr]<;>rfl),rfl,fun m hm=>?_⟩
  simp (maxSteps:=9^6) +decide (disch:=first|omega|(simp only[lens]<;>omega)|decide) only [go_sem,Zd,Za,simprocAttr]
 exact Zg.quiet c rfl hk
theorem Zq0 {gr sz ino jr:Nat} (F:Fine gr sz ino jr) (h:Go.Ev.H):Zg K Tryz.prog 61 [.g (Yo gr sz ino jr)] h (.w (.c (.int .i64 ((2+jr+gr * sz:Nat):Int)))) h:=by
 have F':=F
 obtain⟨g1,g2,g3,g4,g5,g6,g7,g8,g9,g10,g11⟩:=F'
 have gm:(gr:Int) * (sz:Int)=((gr * sz:Nat):Int):=rfl
 have c1:=Zis Hh F (h.new (.row 4 [Yo gr sz ino jr] false))
 obtain⟨v,h',c,rfl,hk⟩:∃ v h',Zg K Tryz.prog 61 [.g (Yo gr sz ino jr)] h v h'∧v=.w (.c (.int .i64 ((2+jr+gr * sz:Nat):Int)))∧∀ m,m<h.next→h'.get m=h.get m:=by
  refine Zg.Yb fits Hh (by kernel_rfl) (by kernel_rfl) (by kernel_rfl) (show Tryz.f61.body=some _ from rfl) rfl ?_
  iterate 4 (first|apply Goes.seq|(apply Goes.ops2 fits Hh Zb; · simp (maxSteps:=9^6) +decide (disch:=first|omega|(simp only[lens]<;>omega)|decide) only [go_sem,Zd,Za,simprocAttr,Yo,gm,read1]<;>rfl))
  iterate 6 (first|apply Goes.seq|apply Goes.skip|apply Goes.ret|((first|apply Goes.Zo|apply Goes.ops2 fits Hh (Zt Zb c1)); · simp (maxSteps:=9^6) +decide (disch:=first|omega|(simp only[lens]<;>omega)|decide) only [go_sem,Zd,Za,simprocAttr,Zw,Yo,gm,read1]<;>rfl))
  refine⟨_,_,(by simp (maxSteps:=9^6) +decide (disch:=first|omega|(simp only[lens]<;>omega)|decide) only [go_sem,Zd,Za,simprocAttr]<;>rfl),rfl,fun m hm=>?_⟩
  simp (maxSteps:=9^6) +decide (disch:=first|omega|(simp only[lens]<;>omega)|decide) only [go_sem,Zd,Za,simprocAttr]
 exact Zg.quiet c rfl hk
end
end Go.Proofs.YtdkcjalmhdofcaaGreatDoor
set_option maxRecDepth 100000
namespace Go.Proofs.YtdkcjalmhdofcaaGreatDoor
open Go.Ev
theorem ty5:K.types.get 5=some ti5:=by kernel_rfl
theorem sz5:ti5.size=1:=by rfl
theorem ag5:ti5.agg=false:=by rfl
theorem de5:ti5.desc=(.int .u8):=by rfl
theorem ze5:ti5.zero=(.c (.int .u8 0)):=by rfl
theorem by5:ti5.bytes=1:=by rfl
theorem ke5 (k:IntKind) (n:Int):Bn K 20 5 (.c (.int k n))=true:=by kernel_rfl
theorem ty284:K.types.get 284=some ti284:=by kernel_rfl
theorem sz284:ti284.size=5:=by rfl
theorem ag284:ti284.agg=true:=by rfl
theorem fo284_0:Zp K 284 0=some (0,ti5):=by kernel_rfl
theorem fo284_1:Zp K 284 1=some (1,ti3):=by kernel_rfl
theorem fo284_2:Zp K 284 2=some (2,ti3):=by kernel_rfl
theorem fo284_3:Zp K 284 3=some (3,ti3):=by kernel_rfl
theorem fo284_4:Zp K 284 4=some (4,ti3):=by kernel_rfl
theorem bu284 (ps:List (Nat × W)):Z9 K 284 (some ps)=gW (Z5 K 284 ps ti284.zero.cells):=by kernel_rfl
theorem ze284:ti284.zero=(.g ([.int .u8 0,.int .i64 0,.int .i64 0,.int .i64 0,.int .i64 0])):=by rfl
theorem by284:ti284.bytes=40:=by rfl
theorem ty324:K.types.get 324=some ti324:=by kernel_rfl
theorem sz324:ti324.size=15:=by rfl
theorem ag324:ti324.agg=true:=by rfl
theorem de324:ti324.desc=(.array 3 284):=by rfl
theorem ze324:ti324.zero=(.g ([.int .u8 0,.int .i64 0,.int .i64 0,.int .i64 0,.int .i64 0,.int .u8 0,.int .i64 0,.int .i64 0,.int .i64 0,.int .i64 0,.int .u8 0,.int .i64 0,.int .i64 0,.int .i64 0,.int .i64 0])):=by rfl
theorem by324:ti324.bytes=120:=by rfl
theorem ty325:K.types.get 325=some ti325:=by kernel_rfl
theorem sz325:ti325.size=20:=by rfl
theorem ag325:ti325.agg=true:=by rfl
theorem de325:ti325.desc=(.array 4 284):=by rfl
theorem ze325:ti325.zero=(.g ([.int .u8 0,.int .i64 0,.int .i64 0,.int .i64 0,.int .i64 0,.int .u8 0,.int .i64 0,.int .i64 0,.int .i64 0,.int .i64 0,.int .u8 0,.int .i64 0,.int .i64 0,.int .i64 0,.int .i64 0,.int .u8 0,.int .i64 0,.int .i64 0,.int .i64 0,.int .i64 0])):=by rfl
theorem by325:ti325.bytes=160:=by rfl
attribute [go_sem] ty5 sz5 ag5 de5 ze5 by5 ke5 ty284 sz284 ag284 fo284_0 fo284_1 fo284_2 fo284_3 fo284_4 bu284 ze284 by284 ty324 sz324 ag324 de324 ze324 by324 ty325 sz325 ag325 de325 ze325 by325
noncomputable def q125 (p:List Nat):Code:=piece p (Jz Tryz.f125)
theorem Znw:q125 [1,1,0,1,2]=.rangeFunc (.tmp 16) #[17] (q125 [1,1,0,1,2,5]) (q125 [1,1,0,1,2,6]):=by kernel_rfl
theorem Zlt:q125 [1,1,0,1,2,5]=.region 4 (Z11 (q125 [1,1,0,1,2,5])) false:=by kernel_rfl
theorem Zlp:q125 [1,1,0,1,2,6]=.block 1 (q125 [1,1,0,1,2,6,2]):=by kernel_rfl
noncomputable def q205 (p:List Nat):Code:=piece p (Jz Tryz.f205)
theorem rs125:Tryz.f125.results.toList=[.cell 4 5,.cell 5 3,.cell 6 3]:=rfl
theorem rs168:Tryz.f168.results.toList=[.tmp 2]:=rfl
theorem rs205:Tryz.f205.results.toList=[]:=rfl
attribute [go_sem] rs125 rs168 rs205
def O7 (kk gp fr sz pl:Nat):List C:=[.int .u8 kk,.int .i64 gp,.int .i64 fr,.int .i64 sz,.int .i64 pl]
section
variable (Hh:Hearts K Tryz.prog)
include Hh
theorem Z2d (l:Nat) (ts:Zy) (kk gp fr sz pl:Nat) (h:Go.Ev.H):Goes K Tryz.prog 36 (some l) (q125 [1,1,0,1,2,5]) [] (ts.set 17 (.w (.g (O7 kk gp fr sz pl)))) h fun x ds' ts' h'=>x=.normal∧ds'=[]∧(∀ s,s≤6→Zm ts' s=Zm ts s)∧Zm ts' 7=.w (.c (.ptr h.next 0))∧h'.next=h.next+1∧h'.get h.next=some (.row 5 [O7 kk gp fr sz pl] false)∧∀ m,m≠h.next→h'.get m=h.get m:=by
 (apply Goes.ops2 fits Hh Zb; · simp (maxSteps:=9^6) +decide (disch:=first|omega|(simp only[lens]<;>omega)|decide) only [go_sem,Zd,Za,simprocAttr,O7]<;>rfl)
 refine⟨rfl,rfl,fun s hs=>?_,?_,rfl,?_,fun m hm=>?_⟩
 ·simp (decide:=true) only [Yk hs]
 ·simp (maxSteps:=9^6) +decide (disch:=first|omega|(simp only[lens]<;>omega)|decide) only [go_sem,Zd,Za,simprocAttr]
 ·simp (maxSteps:=9^6) +decide (disch:=first|omega|(simp only[lens]<;>omega)|decide) only [go_sem,Zd,Za,simprocAttr,O7]
 ·simp (maxSteps:=9^6) +decide (disch:=first|omega|(simp only[lens]<;>omega)|decide) only [go_sem,Zd,Za,simprocAttr]
set_option maxHeartbeats 4000000 in
theorem Z2s (l:Nat) (ts:Zy) (pb p4 p5 p6 q kk gp fr sz pl b:Nat) (h:Go.Ev.H) (x4 x5 x6:C) (s1:kk<256) (s2:gp<1000000) (s3:fr<1000000) (s4:sz<1000000) (s5:pl<1000000) (s6:b<9223372036854775808) (s7:fr≤b)
  (d1:p4≠p5) (d2:p4≠p6) (d3:p5≠p6) (d4:pb≠p4) (d5:pb≠p5) (d6:pb≠p6) (d7:q≠p4) (d8:q≠p5) (d9:q≠p6)
  (e3:Zm ts 3=.w (.c (.ptr pb 0))) (e4:Zm ts 4=.w (.c (.ptr p4 0))) (e5:Zm ts 5=.w (.c (.ptr p5 0))) (e6:Zm ts 6=.w (.c (.ptr p6 0))) (e7:Zm ts 7=.w (.c (.ptr q 0)))
  (hb:h.get pb=some (.row 1 [[.int .i64 b]] false)) (hq:h.get q=some (.row 5 [O7 kk gp fr sz pl] false)) (r4:h.get p4=some (.row 1 [[x4]] false)) (r5:h.get p5=some (.row 1 [[x5]] false)) (r6:h.get p6=some (.row 1 [[x6]] false)) :
  Goes K Tryz.prog 36 (some l) (q125 [1,1,0,1,2,6]) [] ts h fun x _ _ h'=>h'.next=h.next∧(b<fr+sz→x=.ret∧h'.get p4=some (.row 1 [[.int .u8 kk]] false)∧h'.get p5=some (.row 1 [[.int .i64 gp]] false)∧h'.get p6=some (.row 1 [[.int .i64 ((pl+b - fr:Nat):Int)]] false))∧(fr+sz≤b→x=.normal∧h'=h)∧∀ m,m≠p4→m≠p5→m≠p6→h'.get m=h.get m:=by
 have w9:((pl:Int)+(b:Int)) - (fr:Int)=((pl+b - fr:Nat):Int):=by omega
 by_cases hlt:b<fr+sz
 ·
  iterate 7 (first|apply Goes.seq|apply Goes.block|apply Goes.ret|((first|apply Goes.Zo|apply Goes.ops2 fits Hh Zb); · simp (maxSteps:=9^6) +decide (disch:=first|omega|(simp only[lens]<;>omega)|decide) only [go_sem,Zd,Za,simprocAttr,e3,e4,e5,e6,e7,hb,hq,r4,r5,r6,O7,read1,w9,Z4]<;>rfl)|(apply Goes.drawn2 fits Hh Zb (by kernel_rfl); · simp (maxSteps:=9^6) +decide (disch:=first|omega|(simp only[lens]<;>omega)|decide) only [go_sem,Zd,Za,simprocAttr,drG,e3,e4,e5,e6,e7,hb,hq,r4,r5,r6,O7,read1,w9,Z4]<;>rfl))
  refine⟨rfl,fun _=>⟨rfl,?_,?_,?_⟩,fun h9=>by omega,fun m h1 h2 h3=>?_⟩
  ·simp (maxSteps:=9^6) +decide (disch:=first|omega|(simp only[lens]<;>omega)|decide) only [go_sem,Zd,Za,simprocAttr]
  ·simp (maxSteps:=9^6) +decide (disch:=first|omega|(simp only[lens]<;>omega)|decide) only [go_sem,Zd,Za,simprocAttr]
  ·simp (maxSteps:=9^6) +decide (disch:=first|omega|(simp only[lens]<;>omega)|decide) only [go_sem,Zd,Za,simprocAttr]
  ·simp (maxSteps:=9^6) +decide (disch:=first|omega|(simp only[lens]<;>omega)|decide) only [go_sem,Zd,Za,simprocAttr]
 ·
  iterate 5 (first|apply Goes.seq|apply Goes.skip|apply Goes.block|((first|apply Goes.Zo|apply Goes.ops2 fits Hh Zb); · simp (maxSteps:=9^6) +decide (disch:=first|omega|(simp only[lens]<;>omega)|decide) only [go_sem,Zd,Za,simprocAttr,e3,e4,e5,e6,e7,hb,hq,r4,r5,r6,O7,read1]<;>rfl))
  exact⟨rfl,fun h9=>by omega,fun _=>⟨rfl,rfl⟩,fun _ _ _ _=>rfl⟩
theorem Zr7 (l:Nat) (ts:Zy) (pb p4 p5 p6 kk gp fr sz pl b d:Nat) (h:Go.Ev.H) (x4 x5 x6:C) (s1:kk<256) (s2:gp<1000000) (s3:fr<1000000) (s4:sz<1000000) (s5:pl<1000000) (s6:b<9223372036854775808) (s7:fr≤b)
  (d1:p4≠p5) (d2:p4≠p6) (d3:p5≠p6) (d4:pb≠p4) (d5:pb≠p5) (d6:pb≠p6) (l4:l≠p4) (l5:l≠p5) (l6:l≠p6) (lb:l≠pb) (b4:p4<h.next) (b5:p5<h.next) (b6:p6<h.next) (bb:pb<h.next) (bl:l<h.next)
  (e3:Zm ts 3=.w (.c (.ptr pb 0))) (e4:Zm ts 4=.w (.c (.ptr p4 0))) (e5:Zm ts 5=.w (.c (.ptr p5 0))) (e6:Zm ts 6=.w (.c (.ptr p6 0)))
  (hl:h.get l=some (.loop ts 36 [17] (q125 [1,1,0,1,2,5]) (q125 [1,1,0,1,2,6]) .ready none d))
  (hb:h.get pb=some (.row 1 [[.int .i64 b]] false)) (r4:h.get p4=some (.row 1 [[x4]] false)) (r5:h.get p5=some (.row 1 [[x5]] false)) (r6:h.get p6=some (.row 1 [[x6]] false)) :
  ∃ E h' r,Sound K Tryz.prog E∧U3 E l (some [.g (O7 kk gp fr sz pl)]) h (h.get l)=some (.val (.w (.c (.bool r))) h')∧h.next≤h'.next ∧
   (fr+sz≤b→r=true∧∀ m,m<h.next→h'.get m=h.get m) ∧
   (b<fr+sz→r=false∧h'.get l=some (.loop ts 36 [17] (q125 [1,1,0,1,2,5]) (q125 [1,1,0,1,2,6]) .done (some .ret) d)∧h'.get p4=some (.row 1 [[.int .u8 kk]] false)∧h'.get p5=some (.row 1 [[.int .i64 gp]] false)∧h'.get p6=some (.row 1 [[.int .i64 ((pl+b - fr:Nat):Int)]] false)∧∀ m,m<h.next→m≠l→m≠p4→m≠p5→m≠p6→h'.get m=h.get m):=by
 obtain⟨xa,ds1,ts1,h1,kA,rfl,rfl,t1,t7,n1,g1,f1⟩:=Z2d Hh l ts kk gp fr sz pl h
 have q1:∀ m,m<h.next→m≠l→(h1.put l (.loop ts 36 [17] (q125 [1,1,0,1,2,5]) (q125 [1,1,0,1,2,6]) .busy none d)).get m=h.get m:=fun m hm hml=>by rw[Zu hml,f1 m (by omega)]
 have gl:h1.get l=some (.loop ts 36 [17] (q125 [1,1,0,1,2,5]) (q125 [1,1,0,1,2,6]) .ready none d):=by rw[f1 l (by omega)]; exact hl
 obtain⟨xb,ds2,ts2,h2,kB,n2,st,go,f2⟩:=Z2s Hh l ts1 pb p4 p5 p6 h.next kk gp fr sz pl b (h1.put l (.loop ts 36 [17] (q125 [1,1,0,1,2,5]) (q125 [1,1,0,1,2,6]) .busy none d)) x4 x5 x6 s1 s2 s3 s4 s5 s6 s7 d1 d2 d3 d4 d5 d6 (by omega) (by omega) (by omega)
  ((t1 3 (by decide)).trans e3) ((t1 4 (by decide)).trans e4) ((t1 5 (by decide)).trans e5) ((t1 6 (by decide)).trans e6) t7 ((q1 pb bb (Ne.symm lb)).trans hb) (by rw[Zu (by omega)]; exact g1) ((q1 p4 b4 (Ne.symm l4)).trans r4) ((q1 p5 b5 (Ne.symm l5)).trans r5) ((q1 p6 b6 (Ne.symm l6)).trans r6)
 have hl2:h2.get l=some (.loop ts 36 [17] (q125 [1,1,0,1,2,5]) (q125 [1,1,0,1,2,6]) .busy none d):=by rw[f2 l l4 l5 l6]; exact Yh ..
 have S:=Vw (Vw Zb kB) kA
 refine⟨_,_,_,S,Wx hl (by simp only[Oh]; rfl) (Qk ..) gl (Zlh (fun e=>?_) |>.trans (Qk ..)) hl2,?_,fun h9=>?_,fun h9=>?_⟩
 ·have e1:=(Task.code.inj e).1
  rw[Zlp,Zlt] at e1
  cases e1
 ·rw[H.Zh,n2,H.Zh,n1]; omega
 ·obtain⟨rfl,rfl⟩:=go h9
  refine⟨rfl,fun m hm=>?_⟩
  by_cases e:m=l
  ·subst e; rw[Yh,hl]; rfl
  ·rw[Zu e,q1 m hm e]
 ·obtain⟨rfl,k4,k5,k6⟩:=st h9
  refine⟨rfl,Yh ..,?_,?_,?_,fun m hm a1 a2 a3 a4=>?_⟩
  ·rw[Zu (Ne.symm l4)]; exact k4
  ·rw[Zu (Ne.symm l5)]; exact k5
  ·rw[Zu (Ne.symm l6)]; exact k6
  ·rw[Zu a1,f2 m a2 a3 a4,q1 m hm a1]
structure WCtx (l pb p4 p5 p6 pg gr sz ino jr b d:Nat) (ts:Zy) (h:Go.Ev.H):Prop where
 d1:p4≠p5
 d2:p4≠p6
 d3:p5≠p6
 d4:pb≠p4
 d5:pb≠p5
 d6:pb≠p6
 l4:l≠p4
 l5:l≠p5
 l6:l≠p6
 lb:l≠pb
 b4:p4<h.next
 b5:p5<h.next
 b6:p6<h.next
 bb:pb<h.next
 bl:l<h.next
 bg:pg<h.next
 e3:Zm ts 3=.w (.c (.ptr pb 0))
 e4:Zm ts 4=.w (.c (.ptr p4 0))
 e5:Zm ts 5=.w (.c (.ptr p5 0))
 e6:Zm ts 6=.w (.c (.ptr p6 0))
 hl:h.get l=some (.loop ts 36 [17] (q125 [1,1,0,1,2,5]) (q125 [1,1,0,1,2,6]) .ready none d)
 hb:h.get pb=some (.row 1 [[.int .i64 b]] false)
 r4:∃ x,h.get p4=some (.row 1 [[x]] false)
 r5:∃ x,h.get p5=some (.row 1 [[x]] false)
 r6:∃ x,h.get p6=some (.row 1 [[x]] false)
 hg:h.get pg=some (.row 4 [Yo gr sz ino jr] false)
omit Hh in
theorem WCtx.move {l pb p4 p5 p6 pg gr sz ino jr b d:Nat} {ts:Zy} {h h':Go.Ev.H} (W:WCtx l pb p4 p5 p6 pg gr sz ino jr b d ts h) (hn:h.next≤h'.next) (k:∀ m,m<h.next→h'.get m=h.get m):WCtx l pb p4 p5 p6 pg gr sz ino jr b d ts h':=by
 obtain⟨d1,d2,d3,d4,d5,d6,l4,l5,l6,lb,b4,b5,b6,bb,bl,bg,e3,e4,e5,e6,hl,hb,r4,r5,r6,hg⟩:=W
 exact⟨d1,d2,d3,d4,d5,d6,l4,l5,l6,lb,by omega,by omega,by omega,by omega,by omega,by omega,e3,e4,e5,e6,(k l bl).trans hl,(k pb bb).trans hb,by rw[k p4 b4]; exact r4,by rw[k p5 b5]; exact r5,by rw[k p6 b6]; exact r6,(k pg bg).trans hg⟩
structure WAns (l p4 p5 p6 d:Nat) (ts:Zy) (kk gp pl:Nat) (h0 h:Go.Ev.H):Prop where
 next:h0.next≤h.next
 hl:h.get l=some (.loop ts 36 [17] (q125 [1,1,0,1,2,5]) (q125 [1,1,0,1,2,6]) .done (some .ret) d)
 r4:h.get p4=some (.row 1 [[.int .u8 kk]] false)
 r5:h.get p5=some (.row 1 [[.int .i64 gp]] false)
 r6:h.get p6=some (.row 1 [[.int .i64 pl]] false)
 keep:∀ m,m<h0.next→m≠l→m≠p4→m≠p5→m≠p6→h.get m=h0.get m
omit Hh in
theorem WAns.back {l p4 p5 p6 d:Nat} {ts:Zy} {kk gp pl:Nat} {h0 h1 h:Go.Ev.H} (A:WAns l p4 p5 p6 d ts kk gp pl h1 h) (hn:h0.next≤h1.next) (k:∀ m,m<h0.next→h1.get m=h0.get m):WAns l p4 p5 p6 d ts kk gp pl h0 h :=
 ⟨Nat.le_trans hn A.next,A.hl,A.r4,A.r5,A.r6,fun m hm a b c e=>(A.keep m (Nat.lt_of_lt_of_le hm hn) a b c e).trans (k m hm)⟩
theorem WCtx.round {l pb p4 p5 p6 pg gr sz ino jr b d:Nat} {ts:Zy} {h:Go.Ev.H} (W:WCtx l pb p4 p5 p6 pg gr sz ino jr b d ts h) (kk gp fr sz' pl:Nat) (s1:kk<256) (s2:gp<1000000) (s3:fr<1000000) (s4:sz'<1000000) (s5:pl<1000000) (s6:b<9223372036854775808) (s7:fr≤b) :
  ∃ E h' r,Sound K Tryz.prog E∧U3 E l (some [.g (O7 kk gp fr sz' pl)]) h (some (.loop ts 36 [17] (q125 [1,1,0,1,2,5]) (q125 [1,1,0,1,2,6]) .ready none d))=some (.val (.w (.c (.bool r))) h') ∧
   (fr+sz'≤b→r=true∧h.next≤h'.next∧∀ m,m<h.next→h'.get m=h.get m)∧(b<fr+sz'→r=false∧WAns l p4 p5 p6 d ts kk gp (pl+b - fr) h h'):=by
 obtain⟨d1,d2,d3,d4,d5,d6,l4,l5,l6,lb,b4,b5,b6,bb,bl,bg,e3,e4,e5,e6,hl,hb,⟨x4,r4⟩,⟨x5,r5⟩,⟨x6,r6⟩,hg⟩:=W
 obtain⟨E,h',r,S,rnd,n,go,st⟩:=Zr7 Hh l ts pb p4 p5 p6 kk gp fr sz' pl b d h x4 x5 x6 s1 s2 s3 s4 s5 s6 s7 d1 d2 d3 d4 d5 d6 l4 l5 l6 lb b4 b5 b6 bb bl e3 e4 e5 e6 hl hb r4 r5 r6
 rw[hl] at rnd
 refine⟨E,h',r,S,rnd,fun h9=>⟨(go h9).1,n,(go h9).2⟩,fun h9=>?_⟩
 obtain⟨rr,k1,k2,k3,k4,k5⟩:=st h9
 exact⟨rr,n,k1,k2,k3,k4,k5⟩
def Zl2 (jr:Nat):Nat→Nat × Nat × Nat × Nat × Nat
 | 0=>(1,0,0,1,0)
 | 1=>(2,0,1,1,0)
 | _=>(3,0,2,jr,0)
def Zz8 (jr:Nat):List C:=[.int .u8 1,.int .i64 0,.int .i64 0,.int .i64 1,.int .i64 0,.int .u8 2,.int .i64 0,.int .i64 1,.int .i64 1,.int .i64 0,.int .u8 3,.int .i64 0,.int .i64 2,.int .i64 jr,.int .i64 0]
def Zpe (p:Nat × Nat × Nat × Nat × Nat):List C:=O7 p.1 p.2.1 p.2.2.1 p.2.2.2.1 p.2.2.2.2
def Xt (jr:Nat):Nat→Nat
 | 0=>0
 | 1=>1
 | 2=>2
 | _=>2+jr
theorem Zsn {l pb p4 p5 p6 pg gr sz ino jr b d:Nat} {tl:Zy} (F:Fine gr sz ino jr) (s6:b<9223372036854775808):∀ (k i:Nat) (ts:Zy) (h:Go.Ev.H),i+k=3→Xt jr i≤b→WCtx l pb p4 p5 p6 pg gr sz ino jr b d tl h→Zm ts 0=.w (.c (.yield l))→Zm ts 21=.w (.g (Zz8 jr))→Zm ts 22=.w (.c (.int .i64 i)) →
  Goes K Tryz.prog 79 none (q205 [1,1,0,1,2]) [] ts h fun x ds' ts' h'=>ds'=[]∧(∀ s,s≤3→Zm ts' s=Zm ts s)∧((x=.exit 0∧2+jr≤b∧h.next≤h'.next∧∀ m,m<h.next→h'.get m=h.get m) ∨
   (x=.ret∧∃ q,q<3∧Xt jr q≤b∧b<Xt jr (q+1)∧WAns l p4 p5 p6 d tl (Zl2 jr q).1 0 (b - Xt jr q) h h')):=by
 obtain⟨g1,g2,g3,g4,g5,g6,g7,g8,g9,g10,g11⟩:=F
 intro k
 induction k with
 | zero =>
  intro i ts h hi hbe W e0 e21 e22
  obtain rfl:i=3:=by omega
  iterate 6 (first|apply Goes.seq|apply Goes.exit|apply Goes.loop|((first|apply Goes.Zo|apply Goes.ops2 fits Hh Zb); · simp (maxSteps:=9^6) +decide (disch:=first|omega|(simp only[lens]<;>omega)|decide) only [go_sem,Zd,Za,simprocAttr,e22]<;>rfl))
  refine⟨rfl,fun s hs=>?_,.inl ⟨rfl,hbe,Nat.le_refl _,fun _ _=>rfl⟩⟩
  simp (decide:=true) only [Yk hs]
 | succ k ih =>
  intro i ts h hi hbe W e0 e21 e22
  obtain⟨kk,gp,fr,sz',pl,hP⟩:∃ kk gp fr sz' pl,Zl2 jr i=(kk,gp,fr,sz',pl):=⟨_,_,_,_,_,rfl⟩
  have hi3:i=0∨i=1∨i=2:=by omega
  have hx:Zgv K (some ti324) (Zz8 jr) (some i)=some (.g (O7 kk gp fr sz' pl))∧kk<256∧gp=0∧fr=Xt jr i∧fr+sz'=Xt jr (i+1)∧pl=0∧fr<1000000∧sz'<1000000:=by
   rcases hi3 with rfl|rfl|rfl<;>(simp only[Zl2,Prod.mk.injEq] at hP; obtain⟨rfl,rfl,rfl,rfl,rfl⟩:=hP; exact⟨by kernel_rfl,by omega,rfl,rfl,rfl,rfl,by omega,by omega⟩)
  obtain⟨idx,k1,rfl,k3,k4,rfl,k6,k7⟩:=hx
  have W2:=W.move (h':=(h.new (.row 5 [[.int .u8 0,.int .i64 0,.int .i64 0,.int .i64 0,.int .i64 0]] false)).put h.next (.row 5 [O7 kk 0 fr sz' 0] false)) (by rw[H.Zh,H.Zc]; omega) (fun m hm=>by rw[Zu (by omega),Ye (by omega)])
  obtain⟨E,h2,r,S,rnd,go,st⟩:=WCtx.round Hh W2 kk 0 fr sz' 0 k1 (by omega) k6 k7 (by omega) s6 (by omega)
  have hl:=W.hl
  have bl:=W.bl
  have rp:Zd 5 [O7 kk 0 fr sz' 0] 0 5=some (O7 kk 0 fr sz' 0):=rfl
  have lp:(O7 kk 0 fr sz' 0).length=5:=rfl
  have wp:Z4 5 [[.int .u8 0,.int .i64 0,.int .i64 0,.int .i64 0,.int .i64 0]] 0 (O7 kk 0 fr sz' 0)=some [O7 kk 0 fr sz' 0]:=rfl
  by_cases hc:fr+sz'≤b
  ·obtain⟨rfl,n2,q2⟩:=go hc
   have q3:∀ m,m<h.next→h2.get m=h.get m:=fun m hm=>by
    rw[q2 m (by rw[H.Zh,H.Zc]; omega),Zu (by omega),Ye (by omega)]
   rw[H.Zh,H.Zc] at n2
   iterate 11 (first|apply Goes.seq|apply Goes.skip|apply Goes.block|apply Goes.loop|((first|apply Goes.Zo|apply Goes.ops2 fits Hh Zb); · simp (maxSteps:=9^6) +decide (disch:=first|omega|(simp only[lens]<;>omega)|decide) only [go_sem,Za,simprocAttr,e0,e21,e22,hl,idx,rp,lp,wp,rnd,U6]<;>rfl))
   iterate 4 (first|apply Goes.skip|((first|apply Goes.Zo|apply Goes.ops2 fits Hh S); · simp (maxSteps:=9^6) +decide (disch:=first|omega|(simp only[lens]<;>omega)|decide) only [go_sem,Za,simprocAttr,e0,e21,e22,hl,idx,rp,lp,wp,rnd,U6]<;>rfl))
   show Goes K Tryz.prog 79 none (q205 [1,1,0,1,2]) _ _ _ _
   refine (ih (i+1) _ h2 (by omega) (by omega) (W.move (by omega) q3) ?_ ?_ ?_).mono ?_
   ·simp (decide:=true) only [Ze,reduceIte,e0]
   ·simp (decide:=true) only [Ze,reduceIte,e21]
   ·simp (decide:=true) only [Ze,reduceIte]<;>rfl
   ·rintro x ds' ts' h' ⟨z1,z2,z3⟩
    refine⟨z1,fun s hs=>(z2 s hs).trans (by simp (decide:=true) only [Yk hs]),?_⟩
    rcases z3 with ⟨rfl,y1,y2,y3⟩|⟨rfl,q,y1,y2,y3,y4⟩
    ·exact .inl ⟨rfl,y1,by omega,fun m hm=>(y3 m (by omega)).trans (q3 m hm)⟩
    ·exact .inr ⟨rfl,q,y1,y2,y3,y4.back (by omega) q3⟩
  ·obtain⟨rfl,A⟩:=st (by omega)
   have A2:=A.back (h0:=h) (by rw[H.Zh,H.Zc]; omega) (fun m hm=>by rw[Zu (by omega),Ye (by omega)])
   iterate 11 (first|apply Goes.seq|apply Goes.skip|apply Goes.block|apply Goes.loop|((first|apply Goes.Zo|apply Goes.ops2 fits Hh Zb); · simp (maxSteps:=9^6) +decide (disch:=first|omega|(simp only[lens]<;>omega)|decide) only [go_sem,Za,simprocAttr,e0,e21,e22,hl,idx,rp,lp,wp,rnd,U6]<;>rfl))
   iterate 3 (first|apply Goes.ret|((first|apply Goes.Zo|apply Goes.ops2 fits Hh S); · simp (maxSteps:=9^6) +decide (disch:=first|omega|(simp only[lens]<;>omega)|decide) only [go_sem,Za,simprocAttr,e0,e21,e22,hl,idx,rp,lp,wp,rnd,U6]<;>rfl))
   refine⟨rfl,fun s hs=>?_,.inr ⟨rfl,i,by omega,by omega,by omega,?_⟩⟩
   ·simp (decide:=true) only [Yk hs]
   ·rw[hP,←k3]
    rwa [Nat.zero_add] at A2
def Sw (sz ino jr k:Nat):Nat→Nat
 | 0=>2+jr+k * sz
 | 1=>2+jr+k * sz+1
 | 2=>2+jr+k * sz+2
 | 3=>2+jr+k * sz+2+ino / 4
 | _=>2+jr+k * sz+sz
def Zfw (sz ino jr k:Nat):Nat→Nat × Nat × Nat × Nat × Nat
 | 0=>(4,k,2+jr+k * sz,1,0)
 | 1=>(5,k,2+jr+k * sz+1,1,1)
 | 2=>(6,k,2+jr+k * sz+2,ino / 4,2)
 | _=>(7,k,2+jr+k * sz+2+ino / 4,sz - 2 - ino / 4,2+ino / 4)
def Z3i (sz ino jr k:Nat):List C:=Zpe (Zfw sz ino jr k 0)++Zpe (Zfw sz ino jr k 1)++Zpe (Zfw sz ino jr k 2)++Zpe (Zfw sz ino jr k 3)
theorem Zyh {l pb p4 p5 p6 pg gr sz ino jr b d:Nat} {tl:Zy} (F:Fine gr sz ino jr) (s6:b<9223372036854775808) {k0:Nat} (hk0:k0<gr):∀ (k i:Nat) (ts:Zy) (h:Go.Ev.H),i+k=4→Sw sz ino jr k0 i≤b→WCtx l pb p4 p5 p6 pg gr sz ino jr b d tl h→Zm ts 0=.w (.c (.yield l))→Zm ts 69=.w (.g (Z3i sz ino jr k0))→Zm ts 70=.w (.c (.int .i64 i)) →
  Goes K Tryz.prog 79 none (q205 [1,1,1,1,2,2,1,1,0,2,1,1,1,1,2]) [] ts h fun x ds' ts' h'=>ds'=[]∧(∀ s,s≤8∨s=31∨s=32→Zm ts' s=Zm ts s)∧((x=.exit 4∧2+jr+k0 * sz+sz≤b∧h.next≤h'.next∧∀ m,m<h.next→h'.get m=h.get m) ∨
   (x=.ret∧∃ q,q<4∧Sw sz ino jr k0 q≤b∧b<Sw sz ino jr k0 (q+1)∧WAns l p4 p5 p6 d tl (Zfw sz ino jr k0 q).1 k0 (b - Sw sz ino jr k0 0) h h')):=by
 obtain⟨g1,g2,g3,g4,g5,g6,g7,g8,g9,g10,g11⟩:=F
 intro k
 induction k with
 | zero =>
  intro i ts h hi hbe W e0 e69 e70
  obtain rfl:i=4:=by omega
  iterate 6 (first|apply Goes.seq|apply Goes.exit|apply Goes.loop|((first|apply Goes.Zo|apply Goes.ops2 fits Hh Zb); · simp (maxSteps:=9^6) +decide (disch:=first|omega|(simp only[lens]<;>omega)|decide) only [go_sem,Zd,Za,simprocAttr,e70]<;>rfl))
  refine⟨rfl,fun s hs=>?_,.inl ⟨rfl,hbe,Nat.le_refl _,fun _ _=>rfl⟩⟩
  rcases hs with hs|rfl|rfl<;>first|(simp (decide:=true) only [Yk hs])|(simp (decide:=true) only [Ze,reduceIte])
 | succ k ih =>
  intro i ts h hi hbe W e0 e69 e70
  obtain⟨kk,gp,fr,sz',pl,hP⟩:∃ kk gp fr sz' pl,Zfw sz ino jr k0 i=(kk,gp,fr,sz',pl):=⟨_,_,_,_,_,rfl⟩
  have m1:k0 * sz+sz≤gr * sz:=by
   have:=Nat.mul_le_mul_right sz (show k0+1≤gr by omega)
   rw[Nat.add_mul] at this
   omega
  have hi3:i=0∨i=1∨i=2∨i=3:=by omega
  have hx:Zgv K (some ti325) (Z3i sz ino jr k0) (some i)=some (.g (O7 kk gp fr sz' pl))∧kk<256∧k0=gp∧fr=Sw sz ino jr k0 i∧fr+sz'=Sw sz ino jr k0 (i+1)∧pl+Sw sz ino jr k0 0=fr∧fr<1000000∧sz'<1000000:=by
   rcases hi3 with rfl|rfl|rfl|rfl<;>(simp only[Zfw,Prod.mk.injEq] at hP; obtain⟨rfl,rfl,rfl,rfl,rfl⟩:=hP; refine⟨by kernel_rfl,by omega,rfl,rfl,?_,?_,?_,?_⟩<;>first|rfl|(simp only[Sw,Nat.reduceAdd,Nat.zero_add]<;>omega)|omega)
  obtain⟨idx,k1,rfl,k3,k4,k5,k6,k7⟩:=hx
  have W2:=W.move (h':=(h.new (.row 5 [[.int .u8 0,.int .i64 0,.int .i64 0,.int .i64 0,.int .i64 0]] false)).put h.next (.row 5 [O7 kk k0 fr sz' pl] false)) (by rw[H.Zh,H.Zc]; omega) (fun m hm=>by rw[Zu (by omega),Ye (by omega)])
  obtain⟨E,h2,r,S,rnd,go,st⟩:=WCtx.round Hh W2 kk k0 fr sz' pl k1 (by omega) k6 k7 (by omega) s6 (by omega)
  have hl:=W.hl
  have bl:=W.bl
  have rp:Zd 5 [O7 kk k0 fr sz' pl] 0 5=some (O7 kk k0 fr sz' pl):=rfl
  have lp:(O7 kk k0 fr sz' pl).length=5:=rfl
  have wp:Z4 5 [[.int .u8 0,.int .i64 0,.int .i64 0,.int .i64 0,.int .i64 0]] 0 (O7 kk k0 fr sz' pl)=some [O7 kk k0 fr sz' pl]:=rfl
  by_cases hc:fr+sz'≤b
  ·obtain⟨rfl,n2,q2⟩:=go hc
   have q3:∀ m,m<h.next→h2.get m=h.get m:=fun m hm=>by
    rw[q2 m (by rw[H.Zh,H.Zc]; omega),Zu (by omega),Ye (by omega)]
   rw[H.Zh,H.Zc] at n2
   iterate 11 (first|apply Goes.seq|apply Goes.skip|apply Goes.block|apply Goes.loop|((first|apply Goes.Zo|apply Goes.ops2 fits Hh Zb); · simp (maxSteps:=9^6) +decide (disch:=first|omega|(simp only[lens]<;>omega)|decide) only [go_sem,Za,simprocAttr,e0,e69,e70,hl,idx,rp,lp,wp,rnd,U6]<;>rfl))
   iterate 4 (first|apply Goes.skip|((first|apply Goes.Zo|apply Goes.ops2 fits Hh S); · simp (maxSteps:=9^6) +decide (disch:=first|omega|(simp only[lens]<;>omega)|decide) only [go_sem,Za,simprocAttr,e0,e69,e70,hl,idx,rp,lp,wp,rnd,U6]<;>rfl))
   show Goes K Tryz.prog 79 none (q205 [1,1,1,1,2,2,1,1,0,2,1,1,1,1,2]) _ _ _ _
   refine (ih (i+1) _ h2 (by omega) (by omega) (W.move (by omega) q3) ?_ ?_ ?_).mono ?_
   ·simp (decide:=true) only [Ze,reduceIte,e0]
   ·simp (decide:=true) only [Ze,reduceIte,e69]
   ·simp (decide:=true) only [Ze,reduceIte]<;>rfl
   ·rintro x ds' ts' h' ⟨z1,z2,z3⟩
    refine⟨z1,fun s hs=>(z2 s hs).trans (by rcases hs with hs|rfl|rfl<;>first|(simp (decide:=true) only [Yk hs])|(simp (decide:=true) only [Ze,reduceIte])),?_⟩
    rcases z3 with ⟨rfl,y1,y2,y3⟩|⟨rfl,q,y1,y2,y3,y4⟩
    ·exact .inl ⟨rfl,y1,by omega,fun m hm=>(y3 m (by omega)).trans (q3 m hm)⟩
    ·exact .inr ⟨rfl,q,y1,y2,y3,y4.back (by omega) q3⟩
  ·obtain⟨rfl,A⟩:=st (by omega)
   have A2:=A.back (h0:=h) (by rw[H.Zh,H.Zc]; omega) (fun m hm=>by rw[Zu (by omega),Ye (by omega)])
   iterate 11 (first|apply Goes.seq|apply Goes.skip|apply Goes.block|apply Goes.loop|((first|apply Goes.Zo|apply Goes.ops2 fits Hh Zb); · simp (maxSteps:=9^6) +decide (disch:=first|omega|(simp only[lens]<;>omega)|decide) only [go_sem,Za,simprocAttr,e0,e69,e70,hl,idx,rp,lp,wp,rnd,U6]<;>rfl))
   iterate 3 (first|apply Goes.ret|((first|apply Goes.Zo|apply Goes.ops2 fits Hh S); · simp (maxSteps:=9^6) +decide (disch:=first|omega|(simp only[lens]<;>omega)|decide) only [go_sem,Za,simprocAttr,e0,e69,e70,hl,idx,rp,lp,wp,rnd,U6]<;>rfl))
   refine⟨rfl,fun s hs=>?_,.inr ⟨rfl,i,by omega,by omega,by omega,?_⟩⟩
   ·rcases hs with hs|rfl|rfl<;>first|(simp (decide:=true) only [Yk hs])|(simp (decide:=true) only [Ze,reduceIte])
   ·rw[hP]
    rwa [show pl+b - fr=b - Sw sz ino jr k0 0 by omega] at A2
end
end Go.Proofs.YtdkcjalmhdofcaaGreatDoor
set_option maxRecDepth 100000
namespace Go.Proofs.YtdkcjalmhdofcaaGreatDoor
open Go.Ev
theorem Z3x (a1 a2 a3 a4 a5 b1 b2 b3 b4 b5 c1 c2 c3 c4 c5:C):Z9 K 324 (some [(0,.g [a1,a2,a3,a4,a5]),(1,.g [b1,b2,b3,b4,b5]),(2,.g [c1,c2,c3,c4,c5])])=some (.g [a1,a2,a3,a4,a5,b1,b2,b3,b4,b5,c1,c2,c3,c4,c5]):=by kernel_rfl
theorem Z31 (a1 a2 a3 a4 a5 b1 b2 b3 b4 b5 c1 c2 c3 c4 c5 d1 d2 d3 d4 d5:C):Z9 K 325 (some [(0,.g [a1,a2,a3,a4,a5]),(1,.g [b1,b2,b3,b4,b5]),(2,.g [c1,c2,c3,c4,c5]),(3,.g [d1,d2,d3,d4,d5])])=some (.g [a1,a2,a3,a4,a5,b1,b2,b3,b4,b5,c1,c2,c3,c4,c5,d1,d2,d3,d4,d5]):=by kernel_rfl
theorem wrP {x y:List C} {n:Nat} (hx:x.length=n) (hy:y.length=n) (h:0<n):Z4 n [x] 0 y=some [y]:=by
 subst hy
 exact Sb h hx
theorem rdP {x:List C} {n:Nat} (hx:x.length=n) (h:0<n):Zd n [x] 0 n=some x:=by
 subst hx
 exact S9 h
section
variable (Hh:Hearts K Tryz.prog)
include Hh
set_option maxHeartbeats 4000000 in
theorem Zv3 {l pb p4 p5 p6 pg gr sz ino jr b d:Nat} {tl:Zy} (F:Fine gr sz ino jr) (s6:b<9223372036854775808):∀ (m k:Nat) (ts:Zy) (h:Go.Ev.H),k+m=gr→2+jr+k * sz≤b→WCtx l pb p4 p5 p6 pg gr sz ino jr b d tl h→Zm ts 0=.w (.c (.yield l))→Zm ts 1=.w (.c (.ptr pg 0))→Zm ts 3=.w (.c (.int .i64 ((ino / 4:Nat):Int)))→Zm ts 31=.w (.c (.int .i64 gr))→Zm ts 32=.w (.c (.int .i64 k)) →
  Goes K Tryz.prog 79 none (q205 [1,1,1,1,2]) [] ts h fun x ds' ts' h'=>ds'=[]∧((x=.exit 2∧2+jr+gr * sz≤b∧h.next≤h'.next∧∀ m,m<h.next→h'.get m=h.get m) ∨
   (x=.ret∧∃ k0 q,k0<gr∧q<4∧Sw sz ino jr k0 q≤b∧b<Sw sz ino jr k0 (q+1)∧WAns l p4 p5 p6 d tl (Zfw sz ino jr k0 q).1 k0 (b - Sw sz ino jr k0 0) h h')):=by
 have F':=F
 obtain⟨g1,g2,g3,g4,g5,g6,g7,g8,g9,g10,g11⟩:=F'
 intro m
 induction m with
 | zero =>
  intro k ts h hk hb W e0 e1 e3 e31 e32
  obtain rfl:k=gr:=by omega
  iterate 6 (first|apply Goes.seq|apply Goes.exit|apply Goes.loop|((first|apply Goes.Zo|apply Goes.ops2 fits Hh Zb); · simp (maxSteps:=9^6) +decide (disch:=first|omega|(simp only[lens]<;>omega)|decide) only [go_sem,Zd,Za,simprocAttr,e31,e32]<;>rfl))
  exact⟨rfl,.inl ⟨rfl,hb,Nat.le_refl _,fun _ _=>rfl⟩⟩
 | succ m ih =>
  intro k ts h hk hb W e0 e1 e3 e31 e32
  have hk0:k<gr:=by omega
  have gm:(k:Int) * (sz:Int)=((k * sz:Nat):Int):=rfl
  have b1:k * sz≤gr * sz:=Nat.mul_le_mul (by omega) (by omega)
  have n1:(2:Int)+(jr:Int)=((2+jr:Nat):Int):=rfl
  have n2:((2+jr:Nat):Int)+((k * sz:Nat):Int)=((2+jr+k * sz:Nat):Int):=rfl
  have n3:((2+jr+k * sz:Nat):Int)+1=((2+jr+k * sz+1:Nat):Int):=rfl
  have n4:((2+jr+k * sz:Nat):Int)+2=((2+jr+k * sz+2:Nat):Int):=rfl
  have n5:((2+jr+k * sz+2:Nat):Int)+((ino / 4:Nat):Int)=((2+jr+k * sz+2+ino / 4:Nat):Int):=rfl
  have n6:(sz:Int) - 2=((sz - 2:Nat):Int):=by omega
  have n7:((sz - 2:Nat):Int) - ((ino / 4:Nat):Int)=((sz - 2 - ino / 4:Nat):Int):=by omega
  have n8:(2:Int)+((ino / 4:Nat):Int)=((2+ino / 4:Nat):Int):=rfl
  have hg:=W.hg
  have bg:=W.bg
  have bl:=W.bl
  iterate 17 (first|apply Goes.seq|apply Goes.skip|apply Goes.block|apply Goes.loop|((first|apply Goes.Zo|apply Goes.ops2 fits Hh Zb); · simp (maxSteps:=9^6) +decide (disch:=first|omega|(simp only[lens]<;>omega)|decide) only [go_sem,Za,simprocAttr,e0,e1,e3,e31,e32,hg,Yo,gm,n1,n2,n3,n4,n5,n6,n7,n8,Z31,wrP,rdP,read1]<;>rfl))
  refine (Zyh Hh F s6 hk0 4 0 _ _ (by omega) (by show 2+jr+k * sz≤b; omega) (W.move ?_ ?_) ?_ ?_ ?_).mono ?_
  ·simp only[H.Zh,H.Zc]<;>omega
  ·intro m' hm
   rw[Zu (by omega),Ye (by omega)]
  ·simp (decide:=true) only [Ze,reduceIte,e0]
  ·simp (decide:=true) only [Ze,reduceIte]<;>rfl
  ·simp (decide:=true) only [Ze,reduceIte]<;>rfl
  rintro x ds' ts' h' ⟨rfl,tsk,⟨rfl,y1,y2,y3⟩|⟨rfl,q,y1,y2,y3,y4⟩⟩
  ·have f0:Zm ts' 0=.w (.c (.yield l)):=(tsk 0 (.inl (by decide))).trans (by simp (decide:=true) only [Ze,reduceIte,e0])
   have f1:Zm ts' 1=.w (.c (.ptr pg 0)):=(tsk 1 (.inl (by decide))).trans (by simp (decide:=true) only [Ze,reduceIte,e1])
   have f3:Zm ts' 3=.w (.c (.int .i64 ((ino / 4:Nat):Int))):=(tsk 3 (.inl (by decide))).trans (by simp (decide:=true) only [Ze,reduceIte,e3])
   have f31:Zm ts' 31=.w (.c (.int .i64 gr)):=(tsk 31 (.inr (.inl rfl))).trans (by simp (decide:=true) only [Ze,reduceIte,e31])
   have f32:Zm ts' 32=.w (.c (.int .i64 k)):=(tsk 32 (.inr (.inr rfl))).trans (by simp (decide:=true) only [Ze,reduceIte,e32])
   simp only[H.Zh,H.Zc] at y2 y3
   have y4:∀ m,m<h.next→h'.get m=h.get m:=fun m' hm=>by
    rw[y3 m' (by omega),Zu (by omega),Ye (by omega)]
   have mu:(k+1) * sz=k * sz+sz:=by rw[Nat.add_mul,Nat.one_mul]
   (apply Goes.ops2 fits Hh Zb; · simp (maxSteps:=9^6) +decide (disch:=first|omega|(simp only[lens]<;>omega)|decide) only [go_sem,Zd,Za,simprocAttr,f0,f1,f3,f31,f32]<;>rfl)
   show Goes K Tryz.prog 79 none (q205 [1,1,1,1,2]) _ _ _ _
   refine (ih (k+1) _ h' (by omega) (by omega) (W.move (by omega) y4) ?_ ?_ ?_ ?_ ?_).mono ?_
   ·simp (decide:=true) only [Ze,reduceIte,f0]
   ·simp (decide:=true) only [Ze,reduceIte,f1]
   ·simp (decide:=true) only [Ze,reduceIte,f3]
   ·simp (decide:=true) only [Ze,reduceIte,f31]
   ·simp (decide:=true) only [Ze,reduceIte]<;>rfl
   rintro x ds' ts2 h2 ⟨z1,z3⟩
   refine⟨z1,?_⟩
   rcases z3 with ⟨rfl,z4,z5,z6⟩|⟨rfl,k0,q,z4,z5,z6,z7,z8⟩
   ·exact .inl ⟨rfl,z4,by omega,fun m' hm=>(z6 m' (by omega)).trans (y4 m' hm)⟩
   ·exact .inr ⟨rfl,k0,q,z4,z5,z6,z7,z8.back (by omega) y4⟩
  ·exact⟨rfl,.inr ⟨rfl,k,q,hk0,y1,y2,y3,y4.back (by simp only[H.Zh,H.Zc]<;>omega) (fun m' hm=>by rw[Zu (by omega),Ye (by omega)])⟩⟩
def Gm (gr sz ino jr b:Nat):Nat × Nat × Nat :=
 if b=0 then (1,0,0) else if b=1 then (2,0,0) else if b<2+jr then (3,0,b - 2) else if 2+jr+gr * sz≤b then (0,0,0)
 else ((if (b - 2 - jr) % sz=0 then 4 else if (b - 2 - jr) % sz=1 then 5 else if (b - 2 - jr) % sz<2+ino / 4 then 6 else 7),(b - 2 - jr) / sz,(b - 2 - jr) % sz)
omit Hh in
theorem Zmo {gr sz ino jr b q:Nat} (F:Fine gr sz ino jr) (hq:q<3) (h1:Xt jr q≤b) (h2:b<Xt jr (q+1)):Gm gr sz ino jr b=((Zl2 jr q).1,0,b - Xt jr q):=by
 obtain⟨g1,g2,g3,g4,g5,g6,g7,g8,g9,g10,g11⟩:=F
 have:q=0∨q=1∨q=2:=by omega
 unfold Gm
 rcases this with rfl|rfl|rfl<;>simp only[Xt,Zl2,Nat.reduceAdd] at h1 h2 ⊢
 ·obtain rfl:b=0:=by omega
  rfl
 ·obtain rfl:b=1:=by omega
  rfl
 ·rw[if_neg (by omega),if_neg (by omega),if_pos (by omega)]
omit Hh in
theorem Zlq {gr sz ino jr b k q:Nat} (F:Fine gr sz ino jr) (hk:k<gr) (hq:q<4) (h1:Sw sz ino jr k q≤b) (h2:b<Sw sz ino jr k (q+1)):Gm gr sz ino jr b=((Zfw sz ino jr k q).1,k,b - Sw sz ino jr k 0):=by
 obtain⟨g1,g2,g3,g4,g5,g6,g7,g8,g9,g10,g11⟩:=F
 have m1:k * sz+sz≤gr * sz:=by
  have:=Nat.mul_le_mul_right sz (show k+1≤gr by omega)
  rw[Nat.add_mul] at this
  omega
 have e0:Sw sz ino jr k 0=2+jr+k * sz:=rfl
 have r1:2+jr+k * sz≤b∧b<2+jr+k * sz+sz:=by
  have:q=0∨q=1∨q=2∨q=3:=by omega
  rcases this with rfl|rfl|rfl|rfl<;>simp only[Sw,Nat.reduceAdd] at h1 h2<;>omega
 obtain⟨p,hp⟩:∃ p,b=2+jr+k * sz+p:=⟨b - (2+jr+k * sz),by omega⟩
 have hps:p<sz:=by omega
 have d1:b - 2 - jr=p+k * sz:=by omega
 have d2:(b - 2 - jr) / sz=k:=by rw[d1,Nat.add_mul_div_right _ _ (by omega),Nat.div_eq_of_lt hps,Nat.zero_add]
 have d3:(b - 2 - jr) % sz=p:=by rw[d1,Nat.add_mul_mod_self_right,Nat.mod_eq_of_lt hps]
 unfold Gm
 rw[if_neg (by omega),if_neg (by omega),if_neg (by omega),if_neg (by omega),d2,d3,e0]
 have:q=0∨q=1∨q=2∨q=3:=by omega
 rcases this with rfl|rfl|rfl|rfl<;>simp only[Sw,Zfw,Nat.reduceAdd] at h1 h2 ⊢
 ·rw[if_pos (by omega)]; congr 2; omega
 ·rw[if_neg (by omega),if_pos (by omega)]; congr 2; omega
 ·rw[if_neg (by omega),if_neg (by omega),if_pos (by omega)]; congr 2; omega
 ·rw[if_neg (by omega),if_neg (by omega),if_neg (by omega)]; congr 2; omega
end
end Go.Proofs.YtdkcjalmhdofcaaGreatDoor
set_option maxRecDepth 100000
namespace Go.Proofs.YtdkcjalmhdofcaaGreatDoor
open Go.Ev
section
variable (Hh:Hearts K Tryz.prog)
include Hh
theorem Zvj (gr sz ino jr:Nat) (h:Go.Ev.H):Zg K Tryz.prog 168 [.g (Yo gr sz ino jr)] h (.w (.c (.fn 205 [] [some (h.next,0)]))) (h.new (.row 4 [Yo gr sz ino jr] false)):=by
 refine Zg.goes fits Hh (by kernel_rfl) (by kernel_rfl) (by kernel_rfl) (show Tryz.f168.body=some _ from rfl) rfl ?_
 iterate 5 (first|apply Goes.seq|apply Goes.ret|(apply Goes.ops2 fits Hh Zb; · simp (maxSteps:=9^6) +decide (disch:=first|omega|(simp only[lens]<;>omega)|decide) only [go_sem,Zd,Za,simprocAttr,Z6,Yo]<;>rfl))
 simp (maxSteps:=9^6) +decide (disch:=first|omega|(simp only[lens]<;>omega)|decide) only [go_sem,Zd,Za,simprocAttr,Z6,Yo]<;>rfl
set_option maxHeartbeats 4000000 in
theorem Zda {l pb p4 p5 p6 pg gr sz ino jr b d:Nat} {tl:Zy} (F:Fine gr sz ino jr) (s6:b<9223372036854775808) {h:Go.Ev.H} (W:WCtx l pb p4 p5 p6 pg gr sz ino jr b d tl h) :
  ∃ v h',Zg K Tryz.prog 205 [.c (.yield l),.c (.ptr pg 0)] h v h'∧((2+jr+gr * sz≤b∧h.next≤h'.next∧∀ m,m<h.next→h'.get m=h.get m)∨WAns l p4 p5 p6 d tl (Gm gr sz ino jr b).1 (Gm gr sz ino jr b).2.1 (Gm gr sz ino jr b).2.2 h h'):=by
 have F':=F
 obtain⟨g1,g2,g3,g4,g5,g6,g7,g8,g9,g10,g11⟩:=F'
 have hg:=W.hg
 have bg:=W.bg
 have bl:=W.bl
 have q1:Fe .i64 (ino:Int) 4=some (.int .i64 ((ino / 4:Nat):Int)):=Ej (b:=4) (by omega) (by omega)
 refine Zg.Yb fits Hh (by kernel_rfl) (by kernel_rfl) (by kernel_rfl) (show Tryz.f205.body=some _ from rfl) rfl ?_
 iterate 8 (first|apply Goes.seq|apply Goes.block|(apply Goes.ops2 fits Hh Zb; · simp (maxSteps:=9^6) +decide (disch:=first|omega|(simp only[lens]<;>omega)|decide) only [go_sem,Za,simprocAttr,hg,Yo,q1,Z3x,wrP,rdP,read1]<;>rfl))
 refine (Zsn Hh F s6 3 0 _ _ (by omega) (Nat.zero_le _) (W.move ?_ ?_) ?_ ?_ ?_).mono ?_
 ·simp only[H.Zh,H.Zc]<;>omega
 ·intro m' hm
  rw[Zu (by omega),Ye (by omega)]
 ·simp (decide:=true) only [Ze,reduceIte,Y8,List.getElem?_cons_zero]
 ·simp (decide:=true) only [Ze,reduceIte]<;>rfl
 ·simp (decide:=true) only [Ze,reduceIte]<;>rfl
 rintro x ds' ts' h' ⟨rfl,tsk,⟨rfl,y1,y2,y3⟩|⟨rfl,q,y1,y2,y3,y4⟩⟩
 ·have f0:Zm ts' 0=.w (.c (.yield l)):=(tsk 0 (by decide)).trans (by simp (decide:=true) only [Ze,reduceIte,Y8,List.getElem?_cons_zero])
  have f1:Zm ts' 1=.w (.c (.ptr pg 0)):=(tsk 1 (by decide)).trans (by simp (decide:=true) only [Ze,reduceIte,Y8,List.getElem?_cons_succ,List.getElem?_cons_zero])
  have f3:Zm ts' 3=.w (.c (.int .i64 ((ino / 4:Nat):Int))):=(tsk 3 (by decide)).trans (by simp (decide:=true) only [Ze,reduceIte])
  simp only[H.Zh,H.Zc] at y2 y3
  have y4:∀ m,m<h.next→h'.get m=h.get m:=fun m' hm=>by
   rw[y3 m' (by omega),Zu (by omega),Ye (by omega)]
  have W2:=W.move (by omega) y4
  have hg2:=W2.hg
  iterate 3 (first|apply Goes.seq|apply Goes.block|(apply Goes.ops2 fits Hh Zb; · simp (maxSteps:=9^6) +decide (disch:=first|omega|(simp only[lens]<;>omega)|decide) only [go_sem,Zd,Za,simprocAttr,f0,f1,f3,hg2,Yo,read1]<;>rfl))
  refine (Zv3 Hh F s6 gr 0 _ _ (by omega) (by omega) W2 ?_ ?_ ?_ ?_ ?_).mono ?_
  ·simp (decide:=true) only [Ze,reduceIte,f0]
  ·simp (decide:=true) only [Ze,reduceIte,f1]
  ·simp (decide:=true) only [Ze,reduceIte,f3]
  ·simp (decide:=true) only [Ze,reduceIte]
  ·simp (decide:=true) only [Ze,reduceIte]<;>rfl
  rintro x ds' ts2 h2 ⟨rfl,⟨rfl,z4,z5,z6⟩|⟨rfl,k0,q,z4,z5,z6,z7,z8⟩⟩
  ·
   exact⟨_,_,(by simp (maxSteps:=9^6) +decide (disch:=first|omega|(simp only[lens]<;>omega)|decide) only [go_sem,Zd,Za,simprocAttr]<;>rfl),.inl ⟨z4,by omega,fun m hm=>(z6 m (by omega)).trans (y4 m hm)⟩⟩
  ·refine⟨_,_,(by simp (maxSteps:=9^6) +decide (disch:=first|omega|(simp only[lens]<;>omega)|decide) only [go_sem,Zd,Za,simprocAttr]<;>rfl),.inr ?_⟩
   rw[Zlq F z4 z5 z6 z7]
   exact z8.back (by omega) y4
 ·refine⟨_,_,(by simp (maxSteps:=9^6) +decide (disch:=first|omega|(simp only[lens]<;>omega)|decide) only [go_sem,Zd,Za,simprocAttr]<;>rfl),.inr ?_⟩
  rw[Zmo F y1 y2 y3]
  exact y4.back (by simp only[H.Zh,H.Zc]<;>omega) (fun m hm=>by rw[Zu (by omega),Ye (by omega)])
theorem Zv6 {gr sz ino jr b pb p4 p5 p6 pg:Nat} (F:Fine gr sz ino jr) (s6:b<9223372036854775808) (ts:Zy) (h:Go.Ev.H) (d1:p4≠p5) (d2:p4≠p6) (d3:p5≠p6) (d4:pb≠p4) (d5:pb≠p5) (d6:pb≠p6) (b4:p4<h.next) (b5:p5<h.next) (b6:p6<h.next) (bb:pb<h.next) (bg:pg<h.next)
  (e3:Zm ts 3=.w (.c (.ptr pb 0))) (e4:Zm ts 4=.w (.c (.ptr p4 0))) (e5:Zm ts 5=.w (.c (.ptr p5 0))) (e6:Zm ts 6=.w (.c (.ptr p6 0))) (e16:Zm ts 16=.w (.c (.fn 205 [] [some (pg,0)])))
  (hb:h.get pb=some (.row 1 [[.int .i64 b]] false)) (r4:∃ x,h.get p4=some (.row 1 [[x]] false)) (r5:∃ x,h.get p5=some (.row 1 [[x]] false)) (r6:∃ x,h.get p6=some (.row 1 [[x]] false)) (hg:h.get pg=some (.row 4 [Yo gr sz ino jr] false)) :
  Goes K Tryz.prog 36 none (q125 [1,1,0,1,2]) [] ts h fun x ds' ts' h'=>ts'=ts∧ds'=[h.next]∧h'.get h.next=some .defers∧((x=.normal∧Gm gr sz ino jr b=(0,0,0)∧∀ m,m<h.next→h'.get m=h.get m) ∨
   (x=.ret∧h'.get p4=some (.row 1 [[.int .u8 (Gm gr sz ino jr b).1]] false)∧h'.get p5=some (.row 1 [[.int .i64 (Gm gr sz ino jr b).2.1]] false)∧h'.get p6=some (.row 1 [[.int .i64 (Gm gr sz ino jr b).2.2]] false)∧∀ m,m<h.next→m≠p4→m≠p5→m≠p6→h'.get m=h.get m)):=by
 have g0:∀ (o:O) m,m<h.next→((h.new .defers).new o).get m=h.get m:=fun o m hm=>by rw[Ye (by rw[H.Zc]; omega),Ye (by omega)]
 have W:WCtx (h.next+1) pb p4 p5 p6 pg gr sz ino jr b h.next ts ((h.new .defers).new (.loop ts 36 [17] (q125 [1,1,0,1,2,5]) (q125 [1,1,0,1,2,6]) .ready none h.next)) :=
  ⟨d1,d2,d3,d4,d5,d6,by omega,by omega,by omega,by omega,by simp only[H.Zc]; omega,by simp only[H.Zc]; omega,by simp only[H.Zc]; omega,by simp only[H.Zc]; omega,by simp only[H.Zc]; omega,by simp only[H.Zc]; omega,e3,e4,e5,e6,
   by rw[Ju (by simp only[H.Zc]<;>omega)],by rw[g0 _ _ bb]; exact hb,by rw[g0 _ _ b4]; exact r4,by rw[g0 _ _ b5]; exact r5,by rw[g0 _ _ b6]; exact r6,by rw[g0 _ _ bg]; exact hg⟩
 have gd:∀ o:O,((h.new .defers).new o).get h.next=some .defers:=fun o=>by rw[Ye (by rw[H.Zc]; omega),O3]
 rw[Znw]
 refine Goes.Zjd fits Hh (f:=205) (first:=[]) (caps:=[some (pg,0)]) (by simp only[Zx,Z0,e16,asC]) (exE (Zda Hh F s6 W) ?_)
 rintro v h3 (⟨w1,w2,w3⟩|A)
 ·simp only[H.Zc] at w2 w3
  have hN:Gm gr sz ino jr b=(0,0,0):=by
   obtain⟨g1,g2,g3,g4,g5,g6,g7,g8,g9,g10,g11⟩:=F
   unfold Gm
   rw[if_neg (by omega),if_neg (by omega),if_neg (by omega),if_pos w1]
  refine⟨_,_,_,_,_,_,_,_,(w3 _ (by omega)).trans W.hl,by simp,?_⟩
  show _∧_∧_
  refine⟨rfl,rfl,?_,.inl ⟨rfl,hN,fun m hm=>?_⟩⟩
  ·rw[Zu (by omega),w3 _ (by omega),gd]
  ·rw[Zu (by omega),w3 _ (by omega),g0 _ _ hm]
 ·have kp:=A.keep
  simp only[H.Zc] at kp
  refine⟨_,_,_,_,_,_,_,_,A.hl,by simp,?_⟩
  show _∧_∧_
  refine⟨rfl,rfl,?_,.inr ⟨rfl,?_,?_,?_,fun m hm n4 n5 n6=>?_⟩⟩
  ·rw[Zu (by omega),kp _ (by omega) (by omega) (by omega) (by omega) (by omega),gd]
  ·rw[Zu (by omega),A.r4]
  ·rw[Zu (by omega),A.r5]
  ·rw[Zu (by omega),A.r6]
  ·rw[Zu (by omega),kp _ (by omega) (by omega) n4 n5 n6,g0 _ _ hm]
set_option maxHeartbeats 4000000 in
theorem Z1y {gr sz ino jr:Nat} (F:Fine gr sz ino jr) (h:Go.Ev.H) (b:Nat) (s6:b<9223372036854775808):Zg K Tryz.prog 125 [.g (Yo gr sz ino jr),.c (.int .i64 b)] h (.tup [.c (.int .u8 ((Gm gr sz ino jr b).1:Nat)),.c (.int .i64 ((Gm gr sz ino jr b).2.1:Nat)),.c (.int .i64 ((Gm gr sz ino jr b).2.2:Nat))]) h:=by
 obtain⟨v,h',c,rfl,hk⟩:∃ v h',Zg K Tryz.prog 125 [.g (Yo gr sz ino jr),.c (.int .i64 b)] h v h'∧v=.tup [.c (.int .u8 ((Gm gr sz ino jr b).1:Nat)),.c (.int .i64 ((Gm gr sz ino jr b).2.1:Nat)),.c (.int .i64 ((Gm gr sz ino jr b).2.2:Nat))]∧∀ m,m<h.next→h'.get m=h.get m:=by
  refine Zg.Yb fits Hh (by kernel_rfl) (by kernel_rfl) (by kernel_rfl) (show Tryz.f125.body=some _ from rfl) rfl ?_
  iterate 4 (first|apply Goes.seq|(apply Goes.ops2 fits Hh Zb; · simp (maxSteps:=9^6) +decide (disch:=first|omega|(simp only[lens]<;>omega)|decide) only [go_sem,Zd,Za,simprocAttr,Yo,read1,Z6]<;>rfl))
  iterate 5 (first|apply Goes.seq|apply Goes.skip|((first|apply Goes.Zo|apply Goes.ops2 fits Hh (Ue Zb (Zis Hh F))); · simp (maxSteps:=9^6) +decide (disch:=first|omega|(simp only[lens]<;>omega)|decide) only [go_sem,Zd,Za,simprocAttr,Yo,read1,Z6]<;>rfl))
  iterate 2 (first|apply Goes.block|(apply Goes.ops2 fits Hh (Ue Zb (Zvj Hh gr sz ino jr)); · simp (maxSteps:=9^6) +decide (disch:=first|omega|(simp only[lens]<;>omega)|decide) only [go_sem,Zd,Za,simprocAttr,Yo,read1,Z6]<;>rfl))
  refine (Zv6 Hh F s6 _ _ (pb:=h.next+1) (p4:=h.next+1+1) (p5:=h.next+1+1+1) (p6:=h.next+1+1+1+1) (pg:=h.next+1+1+1+1+1) (by omega) (by omega) (by omega) (by omega) (by omega) (by omega) (by simp only[H.Zc]<;>omega) (by simp only[H.Zc]<;>omega) (by simp only[H.Zc]<;>omega) (by simp only[H.Zc]<;>omega) (by simp only[H.Zc]<;>omega) (by simp (maxSteps:=9^6) +decide (disch:=first|omega|(simp only[lens]<;>omega)|decide) only [go_sem,Zd,Za,simprocAttr]) (by simp (maxSteps:=9^6) +decide (disch:=first|omega|(simp only[lens]<;>omega)|decide) only [go_sem,Zd,Za,simprocAttr]) (by simp (maxSteps:=9^6) +decide (disch:=first|omega|(simp only[lens]<;>omega)|decide) only [go_sem,Zd,Za,simprocAttr]) (by simp (maxSteps:=9^6) +decide (disch:=first|omega|(simp only[lens]<;>omega)|decide) only [go_sem,Zd,Za,simprocAttr]) (by simp (maxSteps:=9^6) +decide (disch:=first|omega|(simp only[lens]<;>omega)|decide) only [go_sem,Zd,Za,simprocAttr]) (by simp (maxSteps:=9^6) +decide (disch:=first|omega|(simp only[lens]<;>omega)|decide) only [go_sem,Zd,Za,simprocAttr]) ⟨_,by simp (maxSteps:=9^6) +decide (disch:=first|omega|(simp only[lens]<;>omega)|decide) only [go_sem,Zd,Za,simprocAttr]<;>rfl⟩ ⟨_,by simp (maxSteps:=9^6) +decide (disch:=first|omega|(simp only[lens]<;>omega)|decide) only [go_sem,Zd,Za,simprocAttr]<;>rfl⟩ ⟨_,by simp (maxSteps:=9^6) +decide (disch:=first|omega|(simp only[lens]<;>omega)|decide) only [go_sem,Zd,Za,simprocAttr]<;>rfl⟩ (by simp (maxSteps:=9^6) +decide (disch:=first|omega|(simp only[lens]<;>omega)|decide) only [go_sem,Zd,Za,simprocAttr]<;>rfl)).mono ?_
  rintro x ds' ts' h' ⟨rfl,rfl,gd,⟨rfl,hN,kp⟩|⟨rfl,r4,r5,r6,kp⟩⟩
  ·simp only[H.Zc] at gd kp
   have k4:=(kp (h.next+1+1) (by omega)).trans (show _=some (.row 1 [[.int .u8 0]] false) by simp (maxSteps:=9^6) +decide (disch:=first|omega|(simp only[lens]<;>omega)|decide) only [go_sem,Zd,Za,simprocAttr])
   have k5:=(kp (h.next+1+1+1) (by omega)).trans (show _=some (.row 1 [[.int .i64 0]] false) by simp (maxSteps:=9^6) +decide (disch:=first|omega|(simp only[lens]<;>omega)|decide) only [go_sem,Zd,Za,simprocAttr])
   have k6:=(kp (h.next+1+1+1+1) (by omega)).trans (show _=some (.row 1 [[.int .i64 0]] false) by simp (maxSteps:=9^6) +decide (disch:=first|omega|(simp only[lens]<;>omega)|decide) only [go_sem,Zd,Za,simprocAttr])
   iterate 3 (first|apply Goes.seq|apply Goes.ret|(apply Goes.ops2 fits Hh Zb; · simp (maxSteps:=9^6) +decide (disch:=first|omega|(simp only[lens]<;>omega)|decide) only [go_sem,Zd,Za,simprocAttr,k4,k5,k6,gd,read1,Z4]<;>rfl))
   refine⟨_,_,(by simp (maxSteps:=9^6) +decide (disch:=first|omega|(simp only[lens]<;>omega)|decide) only [go_sem,Zd,Za,simprocAttr,gd,read1]<;>rfl),by rw[hN]<;>rfl,fun m hm=>?_⟩
   simp (maxSteps:=9^6) +decide (disch:=first|omega|(simp only[lens]<;>omega)|decide) only [go_sem,Zd,Za,simprocAttr]
   rw[kp m (by omega)]
   simp (maxSteps:=9^6) +decide (disch:=first|omega|(simp only[lens]<;>omega)|decide) only [go_sem,Zd,Za,simprocAttr]
  ·simp only[H.Zc] at gd kp
   refine⟨_,_,(by simp (maxSteps:=9^6) +decide (disch:=first|omega|(simp only[lens]<;>omega)|decide) only [go_sem,Zd,Za,simprocAttr,gd,r4,r5,r6,read1]<;>rfl),rfl,fun m hm=>?_⟩
   simp (maxSteps:=9^6) +decide (disch:=first|omega|(simp only[lens]<;>omega)|decide) only [go_sem,Zd,Za,simprocAttr]
   rw[kp m (by omega) (by omega) (by omega) (by omega)]
   simp (maxSteps:=9^6) +decide (disch:=first|omega|(simp only[lens]<;>omega)|decide) only [go_sem,Zd,Za,simprocAttr]
 exact Zg.quiet c rfl hk
theorem Zzn {gr sz ino jr:Nat} (F:Fine gr sz ino jr) (h:Go.Ev.H) (z:Int) (hz:z<0):Zg K Tryz.prog 125 [.g (Yo gr sz ino jr),.c (.int .i64 z)] h (.tup [.c (.int .u8 0),.c (.int .i64 0),.c (.int .i64 0)]) h:=by
 obtain⟨v,h',c,rfl,hk⟩:∃ v h',Zg K Tryz.prog 125 [.g (Yo gr sz ino jr),.c (.int .i64 z)] h v h'∧v=.tup [.c (.int .u8 0),.c (.int .i64 0),.c (.int .i64 0)]∧∀ m,m<h.next→h'.get m=h.get m:=by
  refine Zg.Yb fits Hh (by kernel_rfl) (by kernel_rfl) (by kernel_rfl) (show Tryz.f125.body=some _ from rfl) rfl ?_
  iterate 4 (first|apply Goes.seq|(apply Goes.ops2 fits Hh Zb; · simp (maxSteps:=9^6) +decide (disch:=first|omega|(simp only[lens]<;>omega)|decide) only [go_sem,Zd,Za,simprocAttr,Yo,read1,Z6,Z4]<;>rfl))
  iterate 5 (first|apply Goes.seq|apply Goes.ret|((first|apply Goes.Zo|apply Goes.ops2 fits Hh (Ue Zb (Zis Hh F))); · simp (maxSteps:=9^6) +decide (disch:=first|omega|(simp only[lens]<;>omega)|decide) only [go_sem,Zd,Za,simprocAttr,Yo,read1,Z6,Z4]<;>rfl))
  refine⟨_,_,(by simp (maxSteps:=9^6) +decide (disch:=first|omega|(simp only[lens]<;>omega)|decide) only [go_sem,Zd,Za,simprocAttr,read1]<;>rfl),rfl,fun m hm=>by (first|(simp (discharger:=omega) only [H.get_put,H.Zf,H.Zk,H.Zc,H.Zh,H.Zi,if_neg]; done)|(simp only[H.get_put,H.Zf,H.Zk,H.Zc,H.Zh,H.Zi]; (repeat' split)<;>first|rfl|(exfalso; omega)|omega))⟩
 exact Zg.quiet c rfl hk
end
end Go.Proofs.YtdkcjalmhdofcaaGreatDoor
