/- A store at rest: made, open, ours, change, seen, Get; what commits is nothing, the list of the committed is void. -/
import Derived.Test.YteiljiijagmonaaGreatDoorCch
import Derived.Test.YteiljiijagmonaaGreatDoorTxn2
import Derived.Test.YteiljiijagmonaaGreatDoorWhat3
set_option maxRecDepth 100000
set_option maxHeartbeats 4000000
set_option linter.unusedSimpArgs false
set_option linter.unusedVariables false
set_option linter.unusedSectionVars false
namespace Go.Proofs.YteiljiijagmonaaGreatDoor
open Go.Ev
noncomputable section
theorem ty23:K.types.get 23=some ti23:=kR
theorem sz23:ti23.size=1:=by rfl
theorem ag23:ti23.agg=false:=by rfl
theorem de23:ti23.desc=(.pointer 78):=by rfl
theorem ze23:ti23.zero=(.c (.pnil)):=by rfl
theorem by23:ti23.bytes=8:=by rfl
theorem ty72:K.types.get 72=some ti72:=kR
theorem sz72:ti72.size=1:=by rfl
theorem ag72:ti72.agg=false:=by rfl
theorem de72:ti72.desc=(.pointer 84):=by rfl
theorem ze72:ti72.zero=(.c (.pnil)):=by rfl
theorem by72:ti72.bytes=8:=by rfl
theorem ty74:K.types.get 74=some ti74:=kR
theorem sz74:ti74.size=1:=by rfl
theorem ag74:ti74.agg=false:=by rfl
theorem de74:ti74.desc=(.pointer 103):=by rfl
theorem ze74:ti74.zero=(.c (.pnil)):=by rfl
theorem by74:ti74.bytes=8:=by rfl
theorem ty75:K.types.get 75=some ti75:=kR
theorem sz75:ti75.size=1:=by rfl
theorem ag75:ti75.agg=false:=by rfl
theorem de75:ti75.desc=(.map 3 108):=by rfl
theorem ze75:ti75.zero=(.c (.mnil)):=by rfl
theorem by75:ti75.bytes=8:=by rfl
theorem mp75:Db K 75=some (3,108):=kR
theorem ty76:K.types.get 76=some ti76:=kR
theorem sz76:ti76.size=1:=by rfl
theorem ag76:ti76.agg=false:=by rfl
theorem de76:ti76.desc=(.map 3 3):=by rfl
theorem ze76:ti76.zero=(.c (.mnil)):=by rfl
theorem by76:ti76.bytes=8:=by rfl
theorem mp76:Db K 76=some (3,3):=kR
theorem ty78:K.types.get 78=some ti78:=kR
theorem sz78:ti78.size=8:=by rfl
theorem ag78:ti78.agg=true:=by rfl
theorem fo78_0:Zm K 78 0=some (0,ti72):=kR
theorem fo78_1:Zm K 78 1=some (1,ti73):=kR
theorem fo78_2:Zm K 78 2=some (2,ti74):=kR
theorem fo78_3:Zm K 78 3=some (3,ti75):=kR
theorem fo78_4:Zm K 78 4=some (4,ti76):=kR
theorem fo78_5:Zm K 78 5=some (5,ti40):=kR
theorem fo78_6:Zm K 78 6=some (6,ti4):=kR
theorem fo78_7:Zm K 78 7=some (7,ti4):=kR
theorem bu78 (ps:List (Nat × W)):Yg K 78 (some ps)=gW (Z8 K 78 ps ti78.zero.cells):=kR
theorem ze78:ti78.zero=(.g ([.pnil,.pnil,.pnil,.mnil,.mnil,.snil,.bool false,.bool false])):=by rfl
theorem by78:ti78.bytes=72:=by rfl
theorem ty81:K.types.get 81=some ti81:=kR
theorem sz81:ti81.size=1:=by rfl
theorem ag81:ti81.agg=false:=by rfl
theorem de81:ti81.desc=(.pointer 257):=by rfl
theorem ze81:ti81.zero=(.c (.pnil)):=by rfl
theorem by81:ti81.bytes=8:=by rfl
theorem ty82:K.types.get 82=some ti82:=kR
theorem sz82:ti82.size=1:=by rfl
theorem ag82:ti82.agg=false:=by rfl
theorem de82:ti82.desc=(.pointer 260):=by rfl
theorem ze82:ti82.zero=(.c (.pnil)):=by rfl
theorem by82:ti82.bytes=8:=by rfl
theorem ty84:K.types.get 84=some ti84:=kR
theorem sz84:ti84.size=9:=by rfl
theorem ag84:ti84.agg=true:=by rfl
theorem fo84_0:Zm K 84 0=some (0,ti52):=kR
theorem fo84_1:Zm K 84 1=some (4,ti5):=kR
theorem fo84_2:Zm K 84 2=some (5,ti25):=kR
theorem fo84_3:Zm K 84 3=some (6,ti80):=kR
theorem fo84_4:Zm K 84 4=some (7,ti81):=kR
theorem fo84_5:Zm K 84 5=some (8,ti82):=kR
theorem bu84 (ps:List (Nat × W)):Yg K 84 (some ps)=gW (Z8 K 84 ps ti84.zero.cells):=kR
theorem ze84:ti84.zero=(.g ([.int .i64 0,.int .i64 0,.int .i64 0,.int .i64 0,.int .u8 0,.pnil,.pnil,.pnil,.pnil])):=by rfl
theorem by84:ti84.bytes=72:=by rfl
theorem ty98:K.types.get 98=some ti98:=kR
theorem sz98:ti98.size=1:=by rfl
theorem ag98:ti98.agg=false:=by rfl
theorem de98:ti98.desc=(.slice 108):=by rfl
theorem ze98:ti98.zero=(.c (.snil)):=by rfl
theorem by98:ti98.bytes=24:=by rfl
theorem el98:Y7 K 98=some ti108:=kR
theorem ty100:K.types.get 100=some ti100:=kR
theorem sz100:ti100.size=3:=by rfl
theorem ag100:ti100.agg=true:=by rfl
theorem fo100_0:Zm K 100 0=some (0,ti34):=kR
theorem fo100_1:Zm K 100 1=some (1,ti98):=kR
theorem fo100_2:Zm K 100 2=some (2,ti40):=kR
theorem bu100 (ps:List (Nat × W)):Yg K 100 (some ps)=gW (Z8 K 100 ps ti100.zero.cells):=kR
theorem ze100:ti100.zero=(.g ([.int .u32 0,.snil,.snil])):=by rfl
theorem by100:ti100.bytes=56:=by rfl
theorem ty101:K.types.get 101=some ti101:=kR
theorem sz101:ti101.size=1:=by rfl
theorem ag101:ti101.agg=false:=by rfl
theorem de101:ti101.desc=(.pointer 319):=by rfl
theorem ze101:ti101.zero=(.c (.pnil)):=by rfl
theorem by101:ti101.bytes=8:=by rfl
theorem ty103:K.types.get 103=some ti103:=kR
theorem sz103:ti103.size=7:=by rfl
theorem ag103:ti103.agg=true:=by rfl
theorem fo103_0:Zm K 103 0=some (0,ti100):=kR
theorem fo103_1:Zm K 103 1=some (3,ti40):=kR
theorem fo103_2:Zm K 103 2=some (4,ti40):=kR
theorem fo103_3:Zm K 103 3=some (5,ti40):=kR
theorem fo103_4:Zm K 103 4=some (6,ti101):=kR
theorem bu103 (ps:List (Nat × W)):Yg K 103 (some ps)=gW (Z8 K 103 ps ti103.zero.cells):=kR
theorem ze103:ti103.zero=(.g ([.int .u32 0,.snil,.snil,.snil,.snil,.snil,.pnil])):=by rfl
theorem by103:ti103.bytes=136:=by rfl
theorem ty108:K.types.get 108=some ti108:=kR
theorem sz108:ti108.size=257:=by rfl
theorem ag108:ti108.agg=true:=by rfl
theorem fo108_0:Zm K 108 0=some (0,ti3):=kR
theorem fo108_1:Zm K 108 1=some (1,ti66):=kR
theorem bu108 (ps:List (Nat × W)):Yg K 108 (some ps)=gW (Z8 K 108 ps ti108.zero.cells):=kR
theorem ze108:ti108.zero=(.g (List.replicate 1 (.int .i64 0)++List.replicate 256 (.int .u8 0))):=by rfl
theorem by108:ti108.bytes=264:=by rfl
theorem ty258:K.types.get 258=some ti258:=kR
theorem sz258:ti258.size=1:=by rfl
theorem ag258:ti258.agg=false:=by rfl
theorem de258:ti258.desc=(.slice 279):=by rfl
theorem ze258:ti258.zero=(.c (.snil)):=by rfl
theorem by258:ti258.bytes=24:=by rfl
theorem el258:Y7 K 258=some ti279:=kR
theorem ty260:K.types.get 260=some ti260:=kR
theorem sz260:ti260.size=8:=by rfl
theorem ag260:ti260.agg=true:=by rfl
theorem fo260_0:Zm K 260 0=some (0,ti4):=kR
theorem fo260_1:Zm K 260 1=some (1,ti52):=kR
theorem fo260_2:Zm K 260 2=some (5,ti4):=kR
theorem fo260_3:Zm K 260 3=some (6,ti34):=kR
theorem fo260_4:Zm K 260 4=some (7,ti258):=kR
theorem bu260 (ps:List (Nat × W)):Yg K 260 (some ps)=gW (Z8 K 260 ps ti260.zero.cells):=kR
theorem ze260:ti260.zero=(.g ([.bool false,.int .i64 0,.int .i64 0,.int .i64 0,.int .i64 0,.bool false,.int .u32 0,.snil])):=by rfl
theorem by260:ti260.bytes=72:=by rfl
theorem ty279:K.types.get 279=some ti279:=kR
theorem sz279:ti279.size=5:=by rfl
theorem ag279:ti279.agg=true:=by rfl
theorem fo279_0:Zm K 279 0=some (0,ti34):=kR
theorem fo279_1:Zm K 279 1=some (1,ti3):=kR
theorem fo279_2:Zm K 279 2=some (2,ti3):=kR
theorem fo279_3:Zm K 279 3=some (3,ti40):=kR
theorem fo279_4:Zm K 279 4=some (4,ti75):=kR
theorem bu279 (ps:List (Nat × W)):Yg K 279 (some ps)=gW (Z8 K 279 ps ti279.zero.cells):=kR
theorem ze279:ti279.zero=(.g ([.int .u32 0,.int .i64 0,.int .i64 0,.snil,.mnil])):=by rfl
theorem by279:ti279.bytes=56:=by rfl
attribute [go_sem] ty23 sz23 ag23 de23 ze23 by23 ty40 sz40 ag40 de40 ze40 by40 el40 ty72 sz72 ag72 de72 ze72 by72 ty74 sz74 ag74 de74 ze74 by74 ty75 sz75 ag75 de75 ze75 by75 mp75 ty76 sz76 ag76 de76 ze76 by76 mp76 ty78 sz78 ag78 fo78_0 fo78_1 fo78_2 fo78_3 fo78_4 fo78_5 fo78_6 fo78_7 bu78 ze78 by78 ty81 sz81 ag81 de81 ze81 by81 ty82 sz82 ag82 de82 ze82 by82 ty84 sz84 ag84 fo84_0 fo84_1 fo84_2 fo84_3 fo84_4 fo84_5 bu84 ze84 by84 ty98 sz98 ag98 de98 ze98 by98 el98 ty100 sz100 ag100 fo100_0 fo100_1 fo100_2 bu100 ze100 by100 ty101 sz101 ag101 de101 ze101 by101 ty103 sz103 ag103 fo103_0 fo103_1 fo103_2 fo103_3 fo103_4 bu103 ze103 by103 ty108 sz108 ag108 fo108_0 fo108_1 bu108 ze108 by108 ty258 sz258 ag258 de258 ze258 by258 el258 ty260 sz260 ag260 fo260_0 fo260_1 fo260_2 fo260_3 fo260_4 bu260 ze260 by260 ty279 sz279 ag279 fo279_0 fo279_1 fo279_2 fo279_3 fo279_4 bu279 ze279 by279
theorem rs21:Tryz.f21.results.toList=[.tmp 2]:=rfl
theorem rs34:Tryz.f34.results.toList=[.tmp 2]:=rfl
theorem rs58:Tryz.f58.results.toList=[.tmp 4]:=rfl
theorem rs135:Tryz.f135.results.toList=[.tmp 4]:=rfl
theorem rs120:Tryz.f120.results.toList=[.cell 4 66,.tmp 5]:=rfl
theorem rs168:Tryz.f168.results.toList=[.tmp 2]:=rfl
theorem rs121:Tryz.f121.results.toList=[.cell 4 66,.tmp 5]:=rfl
attribute [go_sem] rs21 rs34 rs58 rs135 rs120 rs168 rs121
structure Gd where
 gr:Nat
 sz:Nat
 ino:Nat
 jr:Nat
 md:Int
 dk:Nat
 ca:Nat
 ri:Nat
 li:Nat
def gdL (G:Gd):List C:=[.int .i64 (G.gr:Int),.int .i64 (G.sz:Int),.int .i64 (G.ino:Int),.int .i64 (G.jr:Int),.int .u8 G.md,.ptr G.dk 0,.ptr G.ca 0,.ptr G.ri 0,.ptr G.li 0]
def Y1 (a b c d:Nat):Bool:=Nat.ble 1 a&&Nat.ble a 4&&Nat.ble 16 b&&Nat.ble b 512&&Nat.ble 4 c&&Nat.ble c 64&&Nat.beq (c % 4) 0&&Nat.ble 40 d&&Nat.ble d 256&&Nat.ble (3+c / 4) b&&Nat.ble (2+d+a * b) 2048
theorem Ya {a b c d:Nat} (h:Y1 a b c d=true):Fine a b c d:=by
 simp only[Y1,aQ] at h
 obtain⟨⟨⟨⟨⟨⟨⟨⟨⟨⟨h1,h2⟩,h3⟩,h4⟩,h5⟩,h6⟩,h7⟩,h8⟩,h9⟩,h10⟩,h11⟩:=h
 exact⟨lQ h1,lQ h2,lQ h3,lQ h4,lQ h5,lQ h6,bQ h7,lQ h8,lQ h9,lQ h10,lQ h11⟩
def U8 (z:Int):Option Nat:=bif decide (0<=z) then some z.toNat else none
theorem Yd {z:Int} {n:Nat} (e:U8 z=some n):z=(n:Int):=by
 unfold U8 at e
 cases h:decide (0<=z) with
 | true=>rw[h] at e; cases e; have:=of_decide_eq_true h; omega
 | false=>rw[h] at e; cases e
theorem Zhu (n:Nat):U8 (n:Int)=some n:=by
 unfold U8
 rw[decide_eq_true (by omega:(0:Int)<=(n:Int))]
 show some ((n:Int).toNat)=_
 rw[Int.toNat_natCast]
def Mj (h:Hq) (u:Nat):Option Gd:=match h.get u with
 | some (.row s [[.int .i64 a,.int .i64 b,.int .i64 c,.int .i64 d,.int .u8 md,.ptr dk o1,.ptr ca o2,.ptr ri o3,.ptr li o4]] ro)=>(U8 a).bind fun a=>(U8 b).bind fun b=>(U8 c).bind fun c=>(U8 d).bind fun d=>Yt (Nat.beq s 9&&Nat.beq o1 0&&Nat.beq o2 0&&Nat.beq o3 0&&Nat.beq o4 0&&!ro&&Y1 a b c d) (some ⟨a,b,c,d,md,dk,ca,ri,li⟩)
 | _=>none
theorem Uz {h:Hq} {u:Nat} {G:Gd} (e:Mj h u=some G):h.get u=some (.row 9 [gdL G] false)/\Y1 G.gr G.sz G.ino G.jr=true:=by
 unfold Mj at e
 split at e
 ·rename_i heq
  obtain⟨a,ha,e⟩:=Zj e
  obtain⟨b,hb,e⟩:=Zj e
  obtain⟨c,hc,e⟩:=Zj e
  obtain⟨d,hd,e⟩:=Zj e
  obtain⟨q,e⟩:=Zq.1 e
  cases e
  simp only[aQ,Bool.not_eq_true'] at q
  obtain⟨⟨⟨⟨⟨⟨b1,b2⟩,b3⟩,b4⟩,b5⟩,rfl⟩,b6⟩:=q
  obtain rfl:=bQ b1
  obtain rfl:=bQ b2
  obtain rfl:=bQ b3
  obtain rfl:=bQ b4
  obtain rfl:=bQ b5
  rw[Yd ha,Yd hb,Yd hc,Yd hd] at heq
  exact⟨heq,b6⟩
 ·cases e
structure Stt where
 gd:Nat
 tx:Nat
 dt:Nat
 gv:Nat
 bs:C
 kn:Bool
def stL (S:Stt):List C:=[.ptr S.gd 0,.ptr S.tx 0,.pnil,.map S.dt,.map S.gv,S.bs,.bool S.kn,.bool false]
attribute [go_sem] stL
def Da (h:Hq) (s:Nat):Option Stt:=match h.get s with
 | some (.row sz [[.ptr gd o1,.ptr tx o2,.pnil,.map dt,.map gv,bs,.bool kn,.bool dd]] ro)=>Yt (Nat.beq sz 8&&Nat.beq o1 0&&Nat.beq o2 0&&!ro&&!dd) (some ⟨gd,tx,dt,gv,bs,kn⟩)
 | _=>none
theorem Y8 {h:Hq} {s:Nat} {S:Stt} (e:Da h s=some S):h.get s=some (.row 8 [stL S] false):=by
 unfold Da at e
 split at e
 ·rename_i heq
  obtain⟨q,e⟩:=Zq.1 e
  cases e
  simp only[aQ,Bool.not_eq_true'] at q
  obtain⟨⟨⟨⟨b1,b2⟩,b3⟩,rfl⟩,rfl⟩:=q
  obtain rfl:=bQ b1
  obtain rfl:=bQ b2
  obtain rfl:=bQ b3
  exact heq
 ·cases e
def Zfh (h:Hq) (l:Nat):Bool:=match h.get l with
 | some (.row sz [[.bool md,_,_,_,_,_,_,.snil]] _)=>md&&Nat.beq sz 8
 | _=>false
theorem Ri {h:Hq} {l:Nat} (e:Zfh h l=true):∃ a b c d x y ro,h.get l=some (.row 8 [[.bool true,a,b,c,d,x,y,.snil]] ro):=by
 unfold Zfh at e
 split at e
 ·rename_i heq
  simp only[aQ] at e
  obtain⟨rfl,b⟩:=e
  obtain rfl:=bQ b
  exact⟨_,_,_,_,_,_,_,heq⟩
 ·cases e
def Uu (gr sz ino jr:Nat) (z:Int):Bool:=decide (0<=z)&&(!(Nat.beq (Oo gr sz ino jr z.toNat).1 0)&&!(Nat.beq (Oo gr sz ino jr z.toNat).1 3))
def zB:List C:=List.replicate 256 (.int .u8 0)
def Ztd:Kn1:=fun args h=>match args with
 | [.c (.ptr s 0)]=>(Da h s).bind fun _=>some (.w (.c (.bool true)),h)
 | _=>none
def Ztf:Kn1:=fun args h=>match args with
 | [.c (.ptr s 0)]=>(Da h s).bind fun S=>(Uf h S.tx).bind fun X=>Yt X.op (some (.w (.c (.int .i64 0)),h))
 | _=>none
def Ztg:Kn1:=fun args h=>match args with
 | [.c (.ptr u 0),.c (.int .i64 z)]=>(Mj h u).bind fun G=>Yt (decide (z<9223372036854775808)) (some (.w (.c (.bool (Uu G.gr G.sz G.ino G.jr z))),h))
 | _=>none
def Zi2:Kn1:=fun args h=>match args with
 | [.c (.ptr s 0),.c (.int .i64 z)]=>(Da h s).bind fun S=>(Uf h S.tx).bind fun X=>(Mj h S.gd).bind fun G=>Yt (X.op&&decide (z<9223372036854775808)&&Uu G.gr G.sz G.ino G.jr z) (some (.w (.c (.int .i64 0)),h))
 | _=>none
def Z1j:Kn1:=fun args h=>match args with
 | [.c .pnil,.c (.int .i64 _)]=>some (.tup [.g zB,.c (.bool false)],h)
 | _=>none
def Z8g:Kn1:=fun args h=>match args with
 | [.c (.ptr l 0)]=>Yt (Zfh h l) (some (.w (.c (.bool true)),h))
 | _=>none
def Z1f:Kn1:=fun args h=>match args with
 | [.c (.ptr l 0),.c (.int .i64 _)]=>Yt (Zfh h l) (some (.tup [.g zB,.c (.bool false)],h))
 | _=>none
attribute [go_sem] Zhu Mj Da Zfh Ztd Ztf Ztg Zi2 Z1j Z8g Z1f
theorem Z8s:Yg K 66 (some [])=some (.g (List.replicate 256 (.int .u8 0))):=kR
attribute [go_sem] Z8s
theorem Z9r:Yx K 258 (.c .snil)=true:=kR
attribute [go_sem] Z9r
theorem Z5e:zB.all C.flat=true:=kR
section
variable (Hh:Hearts K Tryz.prog)
include Hh
theorem Oa {args:List W} {h h':Hq} {v:V} (e:Ztd args h=some (v,h')):Zi 21 args h v h':=by
 unfold Ztd at e
 split at e
 ·rename_i s
  obtain⟨S,hs,e⟩:=Zj e
  have hs:=Y8 hs
  cases e
  refine fnG Hh Tryz.f21 ?_
  have Jf:=@hs
  repeat (first|apply Zu|apply Yc|refine Zr Hh Za Z6 ?_)
  exact Zf
 ·cases e
theorem Vp {args:List W} {h h':Hq} {v:V} (e:Ztf args h=some (v,h')):Zi 34 args h v h':=by
 unfold Ztf at e
 split at e
 ·rename_i s
  obtain⟨S,hs,e⟩:=Zj e
  have hs:=Y8 hs
  obtain⟨X,ht,e⟩:=Zj e
  have ht:=Yk ht
  obtain⟨bo,e⟩:=Zq.1 e
  cases e
  refine fnG Hh Tryz.f34 ?_
  have Jf:=Ju @hs @ht @bo
  repeat (first|apply Zu|apply Jc|apply Ye|apply Yc|refine Goes.Zl Z6 ?_|refine Zr Hh (EY (EY Za (Oa Hh)) (Za8 Hh)) Z6 ?_)
  exact Zf
 ·cases e
theorem Mx {args:List W} {h h':Hq} {v:V} (e:Z1j args h=some (v,h')):Zi 120 args h v h':=by
 unfold Z1j at e
 split at e
 ·rename_i z
  cases e
  obtain⟨v,h',c,rfl,hk⟩:∃ v h',Zi 120 [.c .pnil,.c (.int .i64 z)] h v h'/\v=.tup [.g zB,.c (.bool false)]/\∀ m,m<h.next->h'.get m=h.get m:=by
   refine Y0 Hh Tryz.f120 ?_
   repeat (first|apply Zu|apply Ye|apply Yc|refine Goes.Zl Y6 ?_|refine Zr Hh Za Y6 ?_)
   exact⟨_,_,(by simp (maxSteps:=9^6) +decide (disch:=first|exact dZ|fail) only [go_sem,Zh,simprocAttr,zB]<;>rfl),rfl,fun m hm=>by exact Jg⟩
  exact c.quiet kR hk
 ·cases e
theorem Zu7 {args:List W} {h h':Hq} {v:V} (e:Z8g args h=some (v,h')):Zi 168 args h v h':=by
 unfold Z8g at e
 split at e
 ·rename_i l
  obtain⟨b,e⟩:=Zq.1 e
  obtain⟨a1,a2,a3,a4,a5,a6,ro,hl⟩:=Ri b
  cases e
  refine fnG Hh Tryz.f168 ?_
  have Jf:=@hl
  repeat (first|apply Zu|apply Yc|refine Zr Hh Za Z6 ?_)
  exact Zf
 ·cases e
theorem Zds {args:List W} {h h':Hq} {v:V} (e:Z1f args h=some (v,h')):Zi 121 args h v h':=by
 unfold Z1f at e
 split at e
 ·rename_i l z
  obtain⟨b,e⟩:=Zq.1 e
  obtain⟨a1,a2,a3,a4,a5,a6,ro,hl⟩:=Ri b
  cases e
  refine Zy.tidy ⟨Tryz.f121,Tryz.func121,kR,by decide⟩ fun tidy=>?_
  have ll:=tidy _ _ hl
  obtain⟨v,h',c,rfl,hk⟩:∃ v h',Zi 121 [.c (.ptr l 0),.c (.int .i64 z)] h v h'/\v=.tup [.g zB,.c (.bool false)]/\∀ m,m<h.next->h'.get m=h.get m:=by
   refine Y0 Hh Tryz.f121 ?_
   have Jf:=@hl
   repeat (first|apply Zu|apply Jc|apply J8|apply Ye|apply Gr|apply Yc|refine Goes.Zl Uq ?_|refine Zr Hh (EY Za (Zu7 Hh)) Uq ?_)
   exact⟨_,_,(by simp (maxSteps:=9^6) +decide (disch:=first|exact dZ|fail) only [go_sem,Zh,simprocAttr,zB]<;>rfl),rfl,fun m hm=>by exact Jg⟩
  exact c.quiet kR hk
 ·cases e
theorem Nq {args:List W} {h h':Hq} {v:V} (e:Ztg args h=some (v,h')):Zi 58 args h v h':=by
 unfold Ztg at e
 split at e
 ·rename_i u z
  obtain⟨G,hg,e⟩:=Zj e
  obtain⟨hg,fb⟩:=Uz hg
  have F:=Ya fb
  obtain⟨bz,e⟩:=Zq.1 e
  have z1:=of_decide_eq_true bz
  cases e
  have gl4:Zk 9 [gdL G] 0 4=some (Jr G.gr G.sz G.ino G.jr):=rfl
  by_cases z0:0<=z
  ·obtain⟨b,rfl⟩:=Int.eq_ofNat_of_zero_le z0
   have c1:=Zsi Hh F h b oM
   obtain⟨⟨k,p,q⟩,hw⟩:∃ w,Oo G.gr G.sz G.ino G.jr b=w:=⟨_,rfl⟩
   have ou:Uu G.gr G.sz G.ino G.jr (b:Int)=(!(Nat.beq k 0)&&!(Nat.beq k 3)):=by
    unfold Uu
    rw[decide_eq_true z0,Int.toNat_natCast,hw]
    rfl
   rw[hw] at c1
   rw[ou]
   by_cases k0:k=0
   ·subst k0
    refine fnG Hh Tryz.f58 ?_
    have Jf:=Jl @hg @gl4
    iterate 3 (first|apply Zu|refine Zr Hh Za Z0 ?_)
    iterate 4 (first|apply Zu|apply Yc|refine Zr Hh (Zp Za c1) Z0 ?_)
    exact Z0
   ·by_cases k3:k=3
    ·subst k3
     refine fnG Hh Tryz.f58 ?_
     have Jf:=Jl @hg @gl4
     iterate 3 (first|apply Zu|refine Zr Hh Za Z0 ?_)
     iterate 4 (first|apply Zu|apply Yc|refine Zr Hh (Zp Za c1) Z0 ?_)
     exact Z0
    ·
     refine fnG Hh Tryz.f58 ?_
     have Jf:=Um @hg @gl4 @k0 @k3
     iterate 3 (first|apply Zu|refine Zr Hh Za Z0 ?_)
     iterate 4 (first|apply Zu|apply Yc|refine Zr Hh (Zp Za c1) Z0 ?_)
     exact Z0
  ·have ou:Uu G.gr G.sz G.ino G.jr z=false:=by
    unfold Uu
    rw[decide_eq_false z0]
    rfl
   rw[ou]
   have c1:=Z5a Hh F h z oM
   refine fnG Hh Tryz.f58 ?_
   have Jf:=Jl @hg @gl4
   iterate 3 (first|apply Zu|refine Zr Hh Za Z0 ?_)
   iterate 4 (first|apply Zu|apply Yc|refine Zr Hh (Zp Za c1) Z0 ?_)
   exact Z0
 ·cases e
theorem Uo {args:List W} {h h':Hq} {v:V} (e:Zi2 args h=some (v,h')):Zi 135 args h v h':=by
 unfold Zi2 at e
 split at e
 ·rename_i s z
  obtain⟨S,hs,e⟩:=Zj e
  have hs:=Y8 hs
  obtain⟨X,ht,e⟩:=Zj e
  have ht:=Yk ht
  obtain⟨G,hg,e⟩:=Zj e
  obtain⟨hg,fb⟩:=Uz hg
  obtain⟨b,e⟩:=Zq.1 e
  simp only[aQ,decide_eq_true_eq] at b
  obtain⟨⟨bo,z1⟩,bu⟩:=b
  cases e
  refine fnG Hh Tryz.f135 ?_
  repeat (first|apply Zu|apply Ye|apply Yc|((first|apply Goes.Zl|apply Goes.ops2 fits Hh (EY (EY Za (Vp Hh)) (Nq Hh))); · simp (maxSteps:=9^6) +decide (disch:=first|exact dZ|fail) only [go_sem,Zk,Zh,simprocAttr,hs,ht,hg,gdL,fb,bo,bu,read1]<;>rfl))
  exact Zf
 ·cases e
end
theorem ty257:K.types.get 257=some ti257:=kR
theorem sz257:ti257.size=3:=by rfl
theorem ag257:ti257.agg=true:=by rfl
theorem fo257_0:Zm K 257 0=some (0,ti3):=kR
theorem fo257_1:Zm K 257 1=some (1,ti3):=kR
theorem fo257_2:Zm K 257 2=some (2,ti3):=kR
theorem bu257 (ps:List (Nat × W)):Yg K 257 (some ps)=gW (Z8 K 257 ps ti257.zero.cells):=kR
theorem ze257:ti257.zero=(.g ([.int .i64 0,.int .i64 0,.int .i64 0])):=by rfl
theorem by257:ti257.bytes=24:=by rfl
attribute [go_sem] ty257 sz257 ag257 fo257_0 fo257_1 fo257_2 bu257 ze257 by257
theorem rs99:Tryz.f99.results.toList=[.tmp 2]:=rfl
theorem rs103:Tryz.f103.results.toList=[.tmp 2,.tmp 3]:=rfl
theorem rs104:Tryz.f104.results.toList=[.tmp 2,.tmp 3]:=rfl
theorem rs105:Tryz.f105.results.toList=[.tmp 2,.tmp 3]:=rfl
theorem rs129:Tryz.f129.results.toList=[.tmp 0]:=rfl
theorem rs156:Tryz.f156.results.toList=[.cell 0 146]:=rfl
theorem rs106:Tryz.f106.results.toList=[.tmp 2]:=rfl
theorem rs27:Tryz.f27.results.toList=[]:=rfl
theorem rs49:Tryz.f49.results.toList=[.tmp 8,.tmp 9]:=rfl
attribute [go_sem] rs99 rs103 rs104 rs105 rs129 rs156 rs106 rs27 rs49
def Z2b:Kn1:=fun args h=>match args with
 | [.g [.int .i64 a,.int .i64 b,.int .i64 c,.int .i64 d]]=>(U8 a).bind fun a=>(U8 b).bind fun b=>(U8 c).bind fun c=>(U8 d).bind fun d=>Yt (Y1 a b c d) (some (.w (.c (.bool true)),h))
 | _=>none
def Zi7:Kn1:=fun args h=>match args with
 | [.g [.int .i64 a,.int .i64 b,.int .i64 c,.int .i64 d]]=>(U8 a).bind fun a=>(U8 b).bind fun b=>(U8 c).bind fun c=>(U8 d).bind fun d=>Yt (Y1 a b c d) (some (.w (.c (.int .i64 ((2+d+a * b:Nat):Int))),h))
 | _=>none
def Z09:Kn1:=fun args h=>match args with
 | [.c (.int .i64 z)]=>Yt (decide (1<=z)&&decide (z<=2048)) (some (.w (.c (.bool true)),h))
 | _=>none
def Z08:Kn1:=fun args h=>match args with
 | [.c (.ptr d 0)]=>(Nz h d).bind fun _=>some (.tup [.c (.ptr (h.next+1+1) 0),.c (.int .i64 0)],((h.new (.map [])).new (.map [])).new (.row 3 [[.ptr d 0,.map h.next,.map (h.next+1)]] false))
 | _=>none
def Z1q:Kn1:=fun args h=>match args with
 | [.c (.int .i64 z)]=>Yt (decide (40<=z)&&decide (z<=256)) (some (.tup [.c (.ptr h.next 0),.c (.int .i64 0)],h.new (.row 3 [[.int .i64 (z - 1),.int .i64 1,.int .i64 0]] false)))
 | _=>none
def Z1g:Kn1:=fun args h=>match args with
 | [.g [.int .i64 a,.int .i64 b,.int .i64 c,.int .i64 d]]=>(U8 a).bind fun a'=>(U8 b).bind fun b'=>(U8 c).bind fun c'=>(U8 d).bind fun d'=>Yt (Y1 a' b' c' d') (some (.tup [.c (.ptr (h.next+1) 0),.c (.int .i64 0)],(h.new (.row 4 [[.int .i64 a,.int .i64 b,.int .i64 c,.int .i64 d]] false)).new (.row 8 [[.bool true,.int .i64 a,.int .i64 b,.int .i64 c,.int .i64 d,.bool false,.int .u32 0,.snil]] false)))
 | _=>none
def Ztb:Kn1:=fun args h=>match args with
 | []=>some (.w (.c (.ptr (h.next+1) 0)),(h.new (.map [])).new (.row 1 [[.map h.next]] false))
 | _=>none
def Ztr:Kn1:=fun args h=>match args with
 | []=>some (.w (.g [.map (h.next+1),.map (h.next+1+1),.map (h.next+1+1+1),.ptr (h.next+1+1+1+1+1) 0]),((((((h.new (.row 4 [[.mnil,.mnil,.mnil,.pnil]] false)).new (.map [])).new (.map [])).new (.map [])).new (.map [])).new (.row 1 [[.map (h.next+1+1+1+1)]] false)).put h.next (.row 4 [[.map (h.next+1),.map (h.next+1+1),.map (h.next+1+1+1),.ptr (h.next+1+1+1+1+1) 0]] false))
 | _=>none
def Z19:Kn1:=fun args h=>match args with
 | [.c (.int .u32 q)]=>some (.w (.c (.ptr (h.next+1+1+1+1+1+1) 0)),(((((((h.new (.row 4 [[.mnil,.mnil,.mnil,.pnil]] false)).new (.map [])).new (.map [])).new (.map [])).new (.map [])).new (.row 1 [[.map (h.next+1+1+1+1)]] false)).put h.next (.row 4 [[.map (h.next+1),.map (h.next+1+1),.map (h.next+1+1+1),.ptr (h.next+1+1+1+1+1) 0]] false)).new (.row 13 [txL ⟨h.next+1,h.next+1+1,h.next+1+1+1,h.next+1+1+1+1+1,q,false,0,0,.mnil,.mnil,.mnil,.mnil,.pnil⟩] false))
 | _=>none
def Znq:Kn1:=fun args h=>match args with
 | [.c (.ptr s 0)]=>match h.get s with
  | some (.row sz [[gd,tx,nw,dt,gv,bs,kn,dd]] ro)=>Yt (Nat.beq sz 8&&!ro) (some (.tup [],((((h.new (.map [])).put s (.row 8 [[gd,tx,nw,.map h.next,gv,bs,kn,dd]] false)).new (.map [])).put s (.row 8 [[gd,tx,nw,.map h.next,.map (h.next+1),bs,kn,dd]] false)).put s (.row 8 [[gd,tx,nw,.map h.next,.map (h.next+1),bs,.bool false,dd]] false)))
  | _=>none
 | _=>none
def X6 (h:Hq) (d:Nat) (a b c e:Nat) (md q:Int):Hq :=
 let h1:=h.new (.row 4 [Jr a b c e] false)
 let h2:=((h1.new (.map [])).new (.map [])).new (.row 3 [[.ptr d 0,.map h1.next,.map (h1.next+1)]] false)
 let h3:=h2.new (.row 3 [[.int .i64 ((e:Int) - 1),.int .i64 1,.int .i64 0]] false)
 let h4:=(h3.new (.row 4 [Jr a b c e] false)).new (.row 8 [[.bool true,.int .i64 (a:Int),.int .i64 (b:Int),.int .i64 (c:Int),.int .i64 (e:Int),.bool false,.int .u32 0,.snil]] false)
 let h5:=h4.new (.row 9 [gdL ⟨a,b,c,e,md,d,h1.next+1+1,h2.next,h3.next+1⟩] false)
 let h6:=h5.new (.row 8 [[.ptr h4.next 0,.pnil,.pnil,.mnil,.mnil,.snil,.bool false,.bool false]] false)
 let h7:=((((((((h6.new (.row 4 [[.mnil,.mnil,.mnil,.pnil]] false)).new (.map [])).new (.map [])).new (.map [])).new (.map [])).new (.row 1 [[.map (h6.next+1+1+1+1)]] false)).put h6.next (.row 4 [[.map (h6.next+1),.map (h6.next+1+1),.map (h6.next+1+1+1),.ptr (h6.next+1+1+1+1+1) 0]] false)).new (.row 13 [txL ⟨h6.next+1,h6.next+1+1,h6.next+1+1+1,h6.next+1+1+1+1+1,q,false,0,0,.mnil,.mnil,.mnil,.mnil,.pnil⟩] false)).put h5.next (.row 8 [[.ptr h4.next 0,.ptr (h6.next+1+1+1+1+1+1) 0,.pnil,.mnil,.mnil,.snil,.bool false,.bool false]] false)
 ((((h7.new (.map [])).put h5.next (.row 8 [[.ptr h4.next 0,.ptr (h6.next+1+1+1+1+1+1) 0,.pnil,.map h7.next,.mnil,.snil,.bool false,.bool false]] false)).new (.map [])).put h5.next (.row 8 [[.ptr h4.next 0,.ptr (h6.next+1+1+1+1+1+1) 0,.pnil,.map h7.next,.map (h7.next+1),.snil,.bool false,.bool false]] false)).put h5.next (.row 8 [[.ptr h4.next 0,.ptr (h6.next+1+1+1+1+1+1) 0,.pnil,.map h7.next,.map (h7.next+1),.snil,.bool false,.bool false]] false)
def Z1z:Kn1:=fun args h=>match args with
 | [.c (.ptr d 0),.g [.int .i64 a,.int .i64 b,.int .i64 c,.int .i64 e],.c (.int .u8 md),.c (.int .u32 q)]=>(U8 a).bind fun a=>(U8 b).bind fun b=>(U8 c).bind fun c=>(U8 e).bind fun e=>(Nz h d).bind fun D=>Yt (Y1 a b c e&&Nat.ble (2+e+a * b) D.n&&decide (1<=md)&&decide (md<=3)&&decide (1<=q)&&decide (q<=2147483648)) (some (.tup [.c (.ptr (h.next+8) 0),.c (.int .i64 0)],X6 h d a b c e md q))
 | _=>none
attribute [go_sem] Z2b Zi7 Z09 Z08 Z1q Z1g Ztb Ztr Z19 Znq
section
variable (Hh:Hearts K Tryz.prog)
include Hh
theorem Br {args:List W} {h h':Hq} {v:V} (e:Z2b args h=some (v,h')):Zi 51 args h v h':=by
 unfold Z2b at e
 split at e
 ·obtain⟨a,ha,e⟩:=Zj e
  obtain⟨b,hb,e⟩:=Zj e
  obtain⟨c,hc,e⟩:=Zj e
  obtain⟨d,hd,e⟩:=Zj e
  obtain⟨f,e⟩:=Zq.1 e
  cases e
  rw[Yd ha,Yd hb,Yd hc,Yd hd]
  exact Zmf Hh (Ya f) h
 ·cases e
theorem Fs {args:List W} {h h':Hq} {v:V} (e:Zi7 args h=some (v,h')):Zi 102 args h v h':=by
 unfold Zi7 at e
 split at e
 ·obtain⟨a,ha,e⟩:=Zj e
  obtain⟨b,hb,e⟩:=Zj e
  obtain⟨c,hc,e⟩:=Zj e
  obtain⟨d,hd,e⟩:=Zj e
  obtain⟨f,e⟩:=Zq.1 e
  cases e
  rw[Yd ha,Yd hb,Yd hc,Yd hd]
  exact Zv7 Hh (Ya f) h
 ·cases e
theorem Z1a {args:List W} {h h':Hq} {v:V} (e:Z09 args h=some (v,h')):Zi 99 args h v h':=by
 unfold Z09 at e
 split at e
 ·rename_i z
  obtain⟨b,e⟩:=Zq.1 e
  simp only[aQ,decide_eq_true_eq] at b
  obtain⟨z0,z1⟩:=b
  cases e
  refine fnG Hh Tryz.f99 ?_
  repeat (first|apply Zu|apply Yc|refine Zr Hh Za Zf ?_)
  exact Zf
 ·cases e
theorem Vi {args:List W} {h h':Hq} {v:V} (e:Z08 args h=some (v,h')):Zi 103 args h v h':=by
 unfold Z08 at e
 split at e
 ·rename_i d
  obtain⟨D,hd,e⟩:=Zj e
  obtain⟨hd,n0,n1⟩:=Uy hd
  cases e
  refine fnG Hh Tryz.f103 ?_
  have Jf:=@hd
  repeat (first|apply Zu|apply Ye|apply Yc|refine Goes.Zl Zcd ?_|refine Zr Hh (EY Za (Bf Hh)) Zcd ?_)
  exact Zf
 ·cases e
theorem Vm {args:List W} {h h':Hq} {v:V} (e:Z1q args h=some (v,h')):Zi 104 args h v h':=by
 unfold Z1q at e
 split at e
 ·rename_i z
  obtain⟨b,e⟩:=Zq.1 e
  simp only[aQ,decide_eq_true_eq] at b
  obtain⟨z0,z1⟩:=b
  cases e
  refine fnG Hh Tryz.f104 ?_
  repeat (first|apply Zu|apply Ye|apply Yc|refine Goes.Zl Sm ?_|refine Zr Hh Za Sm ?_)
  exact Zf
 ·cases e
theorem Vj {args:List W} {h h':Hq} {v:V} (e:Z1g args h=some (v,h')):Zi 105 args h v h':=by
 unfold Z1g at e
 split at e
 ·obtain⟨a,ha,e⟩:=Zj e
  obtain⟨b,hb,e⟩:=Zj e
  obtain⟨c,hc,e⟩:=Zj e
  obtain⟨d,hd,e⟩:=Zj e
  obtain⟨f,e⟩:=Zq.1 e
  cases e
  rw[Yd ha,Yd hb,Yd hc,Yd hd]
  refine fnG Hh Tryz.f105 ?_
  have Jf:=@f
  repeat (first|apply Zu|apply Ye|apply Yc|refine Goes.Zl Zab ?_|refine Zr Hh (EY Za (Br Hh)) Zab ?_)
  exact Zf
 ·cases e
theorem Vo {args:List W} {h h':Hq} {v:V} (e:Ztb args h=some (v,h')):Zi 129 args h v h':=by
 unfold Ztb at e
 split at e
 ·cases e
  refine fnG Hh Tryz.f129 ?_
  repeat (first|apply Zu|apply Yc|refine Zr Hh Za Sm ?_)
  exact Zf
 ·cases e
theorem Zxu {args:List W} {h h':Hq} {v:V} (e:Ztr args h=some (v,h')):Zi 156 args h v h':=by
 unfold Ztr at e
 split at e
 ·cases e
  refine fnG Hh Tryz.f156 ?_
  repeat (first|apply Zu|apply Yc|refine Zr Hh (EY Za (Vo Hh)) Z57 ?_)
  exact Zf
 ·cases e
theorem Vs {args:List W} {h h':Hq} {v:V} (e:Z19 args h=some (v,h')):Zi 106 args h v h':=by
 unfold Z19 at e
 split at e
 ·rename_i q
  cases e
  refine fnG Hh Tryz.f106 ?_
  repeat (first|apply Zu|apply Yc|refine Zr Hh (EY Za (Zxu Hh)) Sm ?_)
  exact Zf
 ·cases e
theorem Oe {args:List W} {h h':Hq} {v:V} (e:Znq args h=some (v,h')):Zi 27 args h v h':=by
 unfold Znq at e
 split at e
 ·rename_i s
  split at e
  ·rename_i heq
   obtain⟨b,e⟩:=Zq.1 e
   simp only[aQ,Bool.not_eq_true'] at b
   obtain⟨b1,rfl⟩:=b
   obtain rfl:=bQ b1
   cases e
   refine Zy.tidy ⟨Tryz.f27,Tryz.func27,kR,by decide⟩ fun tidy=>?_
   have l1:=tidy _ _ heq
   refine fnG Hh Tryz.f27 ?_
   have Jf:=@heq
   repeat (first|apply Zu|refine Zr Hh Za Gu ?_)
   exact Zf
  ·cases e
 ·cases e
end
theorem rs62:Tryz.f62.results.toList=[.tmp 4]:=rfl
theorem rs24:Tryz.f24.results.toList=[.tmp 4]:=rfl
theorem rs124:Tryz.f124.results.toList=[.tmp 4]:=rfl
theorem rs63:Tryz.f63.results.toList=[.tmp 2]:=rfl
theorem rs64:Tryz.f64.results.toList=[.tmp 2]:=rfl
theorem rs172:Tryz.f172.results.toList=[.tmp 2]:=rfl
theorem rs36:Tryz.f36.results.toList=[.tmp 2]:=rfl
theorem rs40:Tryz.f40.results.toList=[.tmp 2]:=rfl
theorem rs125:Tryz.f125.results.toList=[.tmp 2]:=rfl
theorem rs25:Tryz.f25.results.toList=[.tmp 6,.tmp 7]:=rfl
attribute [go_sem] rs62 rs24 rs124 rs63 rs64 rs172 rs36 rs40 rs125 rs25
def Zth:Kn1:=fun args h=>match args with
 | [.c .snil]=>some (.tup [],h)
 | _=>none
def Z8h:Kn1:=fun args h=>match args with
 | [.c (.ptr r 0),.c (.int .u32 _)]=>(Ee h r).bind fun m=>Yt (Om h m) (some (.w (.c .snil),h))
 | _=>none
def Zex:Kn1:=fun args h=>match args with
 | [.c (.ptr t 0)]=>(Uf h t).bind fun X=>(Ee h X.rv).bind fun m=>Yt (Om h m) (some (.w (.c .snil),h))
 | _=>none
def Zsu:Kn1:=fun args h=>match args with
 | [.c (.map m)]=>some (.w (.c (.fn 213 [] [some (h.next,0)])),h.new (.row 1 [[.map m]] false))
 | _=>none
def Zsw:Kn1:=fun args h=>match args with
 | [.c (.map m)]=>some (.w (.c (.fn 81 [] [some (h.next,0)])),h.new (.row 1 [[.map m]] false))
 | _=>none
def Zsv:Kn1:=fun args h=>match args with
 | [.c (.map m)]=>some (.w (.c (.fn 85 [] [some (h.next,0)])),h.new (.row 1 [[.map m]] false))
 | _=>none
def Zns:Kn1:=fun args h=>match args with
 | [.c (.fn g [] [some (a,0)])]=>Yt (K.keys.contains g) (match h.get a with
  | some (.row sz [[.map n]] _)=>Yt (Nat.beq sz 1) ((getM h n).bind fun l=>match Od (Y5 l) with
   | some []=>some (.w (.c .snil),h)
   | some (k :: ks)=>Yt (Nat.ble (k :: ks).length 1000000) (some (.w (.c (.slice h.next 0 (k :: ks).length 1)),h.new (.row 1 ((k :: ks).map fun i=>[.int .i64 i]) false)))
   | none=>none)
  | _=>none)
 | _=>none
def Z1r:Kn1:=fun args h=>match args with
 | [.c (.map m)]=>Yt (Om h m) (some (.w (.c .snil),h))
 | _=>none
def Bq (a b:Int):Option Int:=bif decide (0<a)&&decide (a<=2048)&&decide (0<=b)&&decide (b<=2048) then some (a+(a+30 - 1) / 30+(b+60 - 1) / 60+1) else none
theorem Gn {a b n:Int} (e:Bq a b=some n):0<a/\a<=2048/\0<=b/\b<=2048/\n=a+(a+30 - 1) / 30+(b+60 - 1) / 60+1:=by
 unfold Bq at e
 cases q:(decide (0<a)&&decide (a<=2048)&&decide (0<=b)&&decide (b<=2048)) with
 | false=>rw[q] at e; cases e
 | true =>
  rw[q] at e
  cases e
  simp only[aQ,decide_eq_true_eq] at q
  exact⟨q.1.1.1,q.1.1.2,q.1.2,q.2,rfl⟩
def Z1w:Kn1:=fun args h=>match args with
 | [.c (.int .i64 a),.c (.int .i64 n)]=>Yt (decide (0<=a)&&decide (a<=4096)&&decide (1<=n)&&decide (n<=4096)) (some (.w (.c (.int .i64 ((a+n - 1) / n))),h))
 | _=>none
def Z12:Kn1:=fun args h=>match args with
 | [.c (.int .i64 a),.c (.int .i64 b)]=>(Bq a b).bind fun n=>some (.w (.c (.int .i64 n)),h)
 | _=>none
def Zni:Kn1:=fun args h=>match args with
 | [.c (.map m)]=>match h.get m with
  | some (.map es)=>some (.w (.c (.map h.next)),h.new (.map es))
  | _=>none
 | _=>none
def Znk:Kn1:=fun args h=>match args with
 | [.c (.map m)]=>match h.get m with
  | some (.map es)=>some (.w (.c (.map h.next)),h.new (.map es))
  | _=>none
 | _=>none
attribute [go_sem] Zth Z8h Zex Zsu Zsw Zsv Zns Z1r Z1w Z12 Zni Znk
theorem Z7a:K.keys.contains 213=true:=kR
theorem Z7c:K.keys.contains 81=true:=kR
theorem Z7b:K.keys.contains 85=true:=kR
theorem Z35:Yx K 40 (.c .snil)=true:=kR
theorem Z77:Od (Y5 [])=some []:=rfl
theorem Z3h:Qd []=some []:=rfl
attribute [go_sem] Z7a Z7c Z7b Z35 Z77 Z3h
theorem Zq1 (E:Task->Option Out) (ts:Zw) (h:Hq) (t:TypeId) (x:Operand):J4 K E ts h (.range t x)=(match Db K t with|some _=>Zc4 h (Zz K ts x)|none=>none):=rfl
theorem Zvi (E:Task->Option Out) (ts:Zw) (h:Hq) (x:Operand):J4 K E ts h (.next x false)=Zej h (Zee h (Zz K ts x)):=rfl
attribute [go_sem] Zq1 Zvi Zc4 Zej Zee
def x00:Kn:=fun _ _ _=>none
theorem Q9:Zfk K Tryz.prog x00:=fun _ _ _ _ _ e=>by cases e
section
variable (Hh:Hearts K Tryz.prog)
include Hh
theorem Zlk {args:List W} {h h':Hq} {v:V} (e:Zth args h=some (v,h')):Zi 80 args h v h':=by
 unfold Zth at e
 split at e
 ·cases e
  exact Zy.closed fits Hh Q9 gl (n:=1000) kR rfl rfl h
 ·cases e
theorem Z1x {args:List W} {h h':Hq} {v:V} (e:Z1w args h=some (v,h')):Zi 62 args h v h':=by
 unfold Z1w at e
 split at e
 ·obtain⟨b,e⟩:=Zq.1 e
  simp only[aQ,decide_eq_true_eq] at b
  obtain⟨⟨⟨b1,b2⟩,b3⟩,b4⟩:=b
  cases e
  rename_i a n
  obtain⟨x,rfl⟩:=Int.eq_ofNat_of_zero_le b1
  obtain⟨m,rfl⟩:=Int.eq_ofNat_of_zero_le (show 0<=n by omega)
  have q:=Nj (a:=x+m - 1) (b:=m) oM oM
  rw[show ((x+m - 1:Nat):Int)=(x:Int)+m - 1 by omega] at q
  have q2:(((x+m - 1) / m:Nat):Int)=((x:Int)+m - 1) / m:=by
   rw[Int.natCast_ediv,show ((x+m - 1:Nat):Int)=(x:Int)+m - 1 by omega]
  rw[q2] at q
  refine fnG Hh Tryz.f62 ?_
  have Jf:=@q
  repeat (first|apply Zu|apply Yc|refine Zr Hh Za Zn ?_)
  exact Zf
 ·cases e
theorem M0 {args:List W} {h h':Hq} {v:V} (e:Z12 args h=some (v,h')):Zi 24 args h v h':=by
 unfold Z12 at e
 split at e
 ·obtain⟨n,hn,e⟩:=Zj e
  obtain⟨a0,a1,b0,b1,rfl⟩:=Gn hn
  cases e
  rename_i a b
  have d1:decide (a > 2048)=false:=decide_eq_false oM
  have d2:decide (b > 2048)=false:=decide_eq_false oM
  have d3:decide (a<0)=false:=decide_eq_false oM
  have d4:decide (b<0)=false:=decide_eq_false oM
  have d5:(a == 0)=false:=U7 oM
  refine fnG Hh Tryz.f24 ?_
  have Jf:=Ej @d1 @d2 @d3 @d4 @d5
  iterate 4 (first|refine Zr Hh Za Zn ?_|apply gS)
  refine Goes.ops2 fits Hh Za (by
   iterate 22 (refine Yv Zn ?_)
   exact Yu) ?_
  iterate 3 (first|refine Goes.Zl Zn ?_|apply gS)
  refine Goes.ops2 fits Hh (EY Za (Z1x Hh)) (by
   iterate 9 (refine Yv Zn ?_)
   exact Yu) ?_
  apply Yc
  exact Zf
 ·cases e
theorem Zdj {f:FuncId} {args:List W} {h h':Hq} {v:V} (e:Di K E0 f args h=some (.val v h')):Zi f args h v h':=by
 have T:=Lv (P:=Tryz.prog) fits Hh Za (Zah fits Za)
 exact T.call f args h v h' e
theorem Rn {args:List W} {h h':Hq} {v:V} (e:Zns args h=some (v,h')):Zi 35 args h v h':=by
 refine Zdj Hh ?_
 have e1:Di K E0 35 args h=Ep K h args:=kR
 rw[e1]
 unfold Zns at e
 split at e
 ·rename_i g a
  obtain⟨b,e⟩:=Zq.1 e
  split at e
  ·rename_i n ro hg
   obtain⟨b1,e⟩:=Zq.1 e
   obtain rfl:=bQ b1
   obtain⟨l,hl,e⟩:=Zj e
   have hl:=getM_some hl
   have r1:read1 1 [[C.map n]] 0=some (.map n):=rfl
   simp only[Ep,b,cond_true,hg,r1,Q5,hl]
   split at e
   ·rename_i hk
    cases e
    rw[hk]
    rfl
   ·rename_i k ks hk
    obtain⟨b2,e⟩:=Zq.1 e
    cases e
    rw[hk]
    show (bif Nat.ble (k :: ks).length 1000000 then _ else none)=_
    rw[b2]
    rfl
   ·cases e
  ·cases e
 ·cases e
theorem Xx {args:List W} {h h':Hq} {v:V} (e:Zni args h=some (v,h')):Zi 131 args h v h':=by
 unfold Zni at e
 split at e
 ·split at e
  ·rename_i es he
   cases e
   refine Zdj Hh ?_
   have e1:∀ args,Di K E0 131 args h=Ma h args:=fun args=>kR
   rw[e1]
   simp only[Ma,he]
  ·cases e
 ·cases e
theorem Xy {args:List W} {h h':Hq} {v:V} (e:Znk args h=some (v,h')):Zi 132 args h v h':=by
 unfold Znk at e
 split at e
 ·split at e
  ·rename_i es he
   cases e
   refine Zdj Hh ?_
   have e1:∀ args,Di K E0 132 args h=Ma h args:=fun args=>kR
   rw[e1]
   simp only[Ma,he]
  ·cases e
 ·cases e
theorem Zlg {args:List W} {h h':Hq} {v:V} (e:Zsu args h=some (v,h')):Zi 172 args h v h':=by
 unfold Zsu at e
 split at e
 ·cases e
  refine fnG Hh Tryz.f172 ?_
  repeat (first|apply Zu|apply Yc|refine Zr Hh Za Sm ?_)
  exact Zf
 ·cases e
theorem Za4 {args:List W} {h h':Hq} {v:V} (e:Zsw args h=some (v,h')):Zi 36 args h v h':=by
 unfold Zsw at e
 split at e
 ·cases e
  refine fnG Hh Tryz.f36 ?_
  repeat (first|apply Zu|apply Yc|refine Zr Hh Za Sm ?_)
  exact Zf
 ·cases e
theorem Za3 {args:List W} {h h':Hq} {v:V} (e:Zsv args h=some (v,h')):Zi 40 args h v h':=by
 unfold Zsv at e
 split at e
 ·cases e
  refine fnG Hh Tryz.f40 ?_
  repeat (first|apply Zu|apply Yc|refine Zr Hh Za Sm ?_)
  exact Zf
 ·cases e
theorem Zf9 {args:List W} {h h':Hq} {v:V} (e:Z8h args h=some (v,h')):Zi 124 args h v h':=by
 unfold Z8h at e
 split at e
 ·rename_i r q
  obtain⟨m,hr,e⟩:=Zj e
  have hr:=Jk hr
  obtain⟨b,e⟩:=Zq.1 e
  have hm:=Yz b
  cases e
  refine Zy.tidy ⟨Tryz.f124,Tryz.func124,kR,by decide⟩ fun tidy=>?_
  have l1:=tidy _ _ hr
  have l2:=tidy _ _ hm
  refine X0 rfl ?_
  refine Y0 Hh Tryz.f124 ?_
  repeat (first|apply Zu|apply Jc|apply J8|apply Ye|apply Gr|apply Yc|((first|apply Goes.Zl|apply Goes.ops2 fits Hh (EY (EY Za (Zlh Hh)) (Zlk Hh))); · simp (maxSteps:=9^6) +decide (disch:=first|exact dZ|fail) only [go_sem,Zk,Zh,simprocAttr,hr,hm,read1,Zc4,Zej,Zee]<;>rfl))
  exact⟨_,_,Zf,rfl,fun j hj=>by exact Jg⟩
 ·cases e
theorem Zdx {args:List W} {h h':Hq} {v:V} (e:Zex args h=some (v,h')):Zi 63 args h v h':=by
 unfold Zex at e
 split at e
 ·rename_i t
  obtain⟨X,ht,e⟩:=Zj e
  have ht:=Yk ht
  obtain⟨m,hr,e⟩:=Zj e
  have hr:=Jk hr
  obtain⟨b,e⟩:=Zq.1 e
  have hm:=Yz b
  cases e
  refine fnG Hh Tryz.f63 ?_
  have Jf:=Ju @ht @hr @hm
  repeat (first|apply Zu|apply Ye|apply Yc|refine Goes.Zl Z6 ?_|refine Zr Hh (EY (EY Za (Uj Hh)) (Zf9 Hh)) Z6 ?_|refine G6 Hh (EY (EY Za (Uj Hh)) (Zf9 Hh)) Mf ?_)
  exact Zf
 ·cases e
theorem Z1s {args:List W} {h h':Hq} {v:V} (e:Z1r args h=some (v,h')):Zi 125 args h v h':=by
 unfold Z1r at e
 split at e
 ·rename_i m
  obtain⟨b,e⟩:=Zq.1 e
  have hm:=Yz b
  cases e
  refine Zy.tidy ⟨Tryz.f125,Tryz.func125,kR,by decide⟩ fun tidy=>?_
  have l2:=tidy _ _ hm
  refine X0 rfl ?_
  refine Y0 Hh Tryz.f125 ?_
  have Jf:=@hm
  repeat (first|apply Zu|apply Yc|refine Zr Hh (EY (EY Za (Zlg Hh)) (Rn Hh)) Z6 ?_)
  exact⟨_,_,Zf,rfl,fun j hj=>by exact Jg⟩
 ·cases e
end
end
end Go.Proofs.YteiljiijagmonaaGreatDoor
