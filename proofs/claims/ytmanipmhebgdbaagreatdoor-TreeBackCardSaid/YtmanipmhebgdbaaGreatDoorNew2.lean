/- A store at rest: made, open, ours, change, seen, Get; what commits is nothing, the list of the committed is void. -/
import Derived.Test.YtmanipmhebgdbaaGreatDoorTxn2
import Derived.Test.YtmanipmhebgdbaaGreatDoorWhat3
set_option maxRecDepth 100000
set_option maxHeartbeats 4000000
set_option linter.unusedSimpArgs false
set_option linter.unusedVariables false
set_option linter.unusedSectionVars false
namespace Go.Proofs.YtmanipmhebgdbaaGreatDoor
open Go.Ev
noncomputable section
theorem ty22:K.types.get 22=some ti22:=kR
theorem sz22:ti22.size=1:=by rfl
theorem ag22:ti22.agg=false:=by rfl
theorem de22:ti22.desc=(.slice 3):=by rfl
theorem el22:J9 K 22=some ti3:=kR
theorem ty23:K.types.get 23=some ti23:=kR
theorem sz23:ti23.size=1:=by rfl
theorem ag23:ti23.agg=false:=by rfl
theorem de23:ti23.desc=(.pointer 159):=by rfl
theorem ty153:K.types.get 153=some ti153:=kR
theorem sz153:ti153.size=1:=by rfl
theorem ag153:ti153.agg=false:=by rfl
theorem de153:ti153.desc=(.pointer 164):=by rfl
theorem ty155:K.types.get 155=some ti155:=kR
theorem sz155:ti155.size=1:=by rfl
theorem ag155:ti155.agg=false:=by rfl
theorem de155:ti155.desc=(.pointer 246):=by rfl
theorem ty156:K.types.get 156=some ti156:=kR
theorem sz156:ti156.size=1:=by rfl
theorem ag156:ti156.agg=false:=by rfl
theorem mp156:Ej K 156=some (3,251):=kR
theorem ty157:K.types.get 157=some ti157:=kR
theorem sz157:ti157.size=1:=by rfl
theorem ag157:ti157.agg=false:=by rfl
theorem fo159_0:Zw K 159 0=some (0,ti153):=kR
theorem fo159_1:Zw K 159 1=some (1,ti154):=kR
theorem fo159_2:Zw K 159 2=some (2,ti155):=kR
theorem fo159_3:Zw K 159 3=some (3,ti156):=kR
theorem fo159_4:Zw K 159 4=some (4,ti157):=kR
theorem fo159_5:Zw K 159 5=some (5,ti22):=kR
theorem fo159_6:Zw K 159 6=some (6,ti4):=kR
theorem fo159_7:Zw K 159 7=some (7,ti4):=kR
theorem bu159 (ps:List (Nat × W)):Yr K 159 (some ps)=gW (Yh K 159 ps ti159.zero.cells):=kR
theorem ze159:ti159.zero=(.g ([.pnil,.pnil,.pnil,.mnil,.mnil,.snil,.bool false,.bool false])):=by rfl
theorem sz161:ti161.size=1:=by rfl
theorem ty162:K.types.get 162=some ti162:=kR
theorem sz162:ti162.size=1:=by rfl
theorem ag162:ti162.agg=false:=by rfl
theorem de162:ti162.desc=(.pointer 302):=by rfl
theorem fo164_0:Zw K 164 0=some (0,ti57):=kR
theorem fo164_1:Zw K 164 1=some (4,ti5):=kR
theorem fo164_2:Zw K 164 2=some (5,ti25):=kR
theorem fo164_3:Zw K 164 3=some (6,ti160):=kR
theorem fo164_4:Zw K 164 4=some (7,ti161):=kR
theorem fo164_5:Zw K 164 5=some (8,ti162):=kR
theorem bu164 (ps:List (Nat × W)):Yr K 164 (some ps)=gW (Yh K 164 ps ti164.zero.cells):=kR
theorem ze164:ti164.zero=(.g ([.int .i64 0,.int .i64 0,.int .i64 0,.int .i64 0,.int .u8 0,.pnil,.pnil,.pnil,.pnil])):=by rfl
theorem ty251:K.types.get 251=some ti251:=kR
theorem sz251:ti251.size=257:=by rfl
theorem fo251_0:Zw K 251 0=some (0,ti3):=kR
theorem fo251_1:Zw K 251 1=some (1,ti87):=kR
theorem ze251:ti251.zero=(.g (List.replicate 1 (.int .i64 0)++List.replicate 256 (.int .u8 0))):=by rfl
theorem ty300:K.types.get 300=some ti300:=kR
theorem sz300:ti300.size=1:=by rfl
theorem ag300:ti300.agg=false:=by rfl
theorem fo302_0:Zw K 302 0=some (0,ti4):=kR
theorem fo302_1:Zw K 302 1=some (1,ti57):=kR
theorem fo302_4:Zw K 302 4=some (7,ti300):=kR
theorem bu302 (ps:List (Nat × W)):Yr K 302 (some ps)=gW (Yh K 302 ps ti302.zero.cells):=kR
theorem ze302:ti302.zero=(.g ([.bool false,.int .i64 0,.int .i64 0,.int .i64 0,.int .i64 0,.bool false,.int .u32 0,.snil])):=by rfl
attribute [go_sem] ty22 sz22 ag22 de22 el22 ty23 sz23 ag23 de23 ty153 sz153 ag153 de153 ty155 sz155 ag155 de155 ty156 sz156 ag156 mp156 ty157 sz157 ag157 fo159_0 fo159_1 fo159_2 fo159_3 fo159_4 fo159_5 fo159_6 fo159_7 bu159 ze159 sz161 ty162 sz162 ag162 de162 fo164_0 fo164_1 fo164_2 fo164_3 fo164_4 fo164_5 bu164 ze164 ty251 sz251 fo251_0 fo251_1 ze251 ty300 sz300 ag300 fo302_0 fo302_1 fo302_4 bu302 ze302
theorem rs81:Tryz.f81.results.toList=[.tmp 2]:=rfl
theorem rs126:Tryz.f126.results.toList=[.tmp 2]:=rfl
theorem rs82:Tryz.f82.results.toList=[.tmp 4]:=rfl
theorem rs153:Tryz.f153.results.toList=[.tmp 4]:=rfl
theorem rs160:Tryz.f160.results.toList=[.cell 4 87,.tmp 5]:=rfl
theorem rs233:Tryz.f233.results.toList=[.tmp 2]:=rfl
theorem rs161:Tryz.f161.results.toList=[.cell 4 87,.tmp 5]:=rfl
attribute [go_sem] rs81 rs126 rs82 rs153 rs160 rs233 rs161
structure Gd where
 gr:Nat
 sz:Nat
 ino:Nat
 jr:Nat
 md:Int
 dk:Nat
 ca:Nat
 ri:Nat
 li:Nat
def gdL (G:Gd):List C:=[.int .i64 (G.gr:Int),.int .i64 (G.sz:Int),.int .i64 (G.ino:Int),.int .i64 (G.jr:Int),.int .u8 G.md,.ptr G.dk 0,.ptr G.ca 0,.ptr G.ri 0,.ptr G.li 0]
def Yu (a b c d:Nat):Bool:=Nat.ble 1 a&&Nat.ble a 4&&Nat.ble 16 b&&Nat.ble b 512&&Nat.ble 4 c&&Nat.ble c 64&&Nat.beq (c % 4) 0&&Nat.ble 40 d&&Nat.ble d 256&&Nat.ble (3+c / 4) b&&Nat.ble (2+d+a * b) 2048
theorem Z5 {a b c d:Nat} (h:Yu a b c d=true):Fine a b c d:=by
 simp only[Yu,aQ] at h
 obtain⟨⟨⟨⟨⟨⟨⟨⟨⟨⟨h1,h2⟩,h3⟩,h4⟩,h5⟩,h6⟩,h7⟩,h8⟩,h9⟩,h10⟩,h11⟩:=h
 exact⟨lQ h1,lQ h2,lQ h3,lQ h4,lQ h5,lQ h6,bQ h7,lQ h8,lQ h9,lQ h10,lQ h11⟩
def Ob (z:Int):Option Nat:=bif decide (0<=z) then some z.toNat else none
theorem Yb {z:Int} {n:Nat} (e:Ob z=some n):z=(n:Int):=by
 unfold Ob at e
 cases h:decide (0<=z) with
 | true=>rw[h] at e; cases e; have:=of_decide_eq_true h; omega
 | false=>rw[h] at e; cases e
theorem Zir (n:Nat):Ob (n:Int)=some n:=by
 unfold Ob
 rw[decide_eq_true (by omega:(0:Int)<=(n:Int))]
 show some ((n:Int).toNat)=_
 rw[Int.toNat_natCast]
def Eu (h:Hq) (u:Nat):Option Gd:=match h.get u with
 | some (.row s [[.int .i64 a,.int .i64 b,.int .i64 c,.int .i64 d,.int .u8 md,.ptr dk o1,.ptr ca o2,.ptr ri o3,.ptr li o4]] ro)=>(Ob a).bind fun a=>(Ob b).bind fun b=>(Ob c).bind fun c=>(Ob d).bind fun d=>Y5 (Nat.beq s 9&&Nat.beq o1 0&&Nat.beq o2 0&&Nat.beq o3 0&&Nat.beq o4 0&&!ro&&Yu a b c d) (some ⟨a,b,c,d,md,dk,ca,ri,li⟩)
 | _=>none
theorem Jp {h:Hq} {u:Nat} {G:Gd} (e:Eu h u=some G):h.get u=some (.row 9 [gdL G] false)/\Yu G.gr G.sz G.ino G.jr=true:=by
 unfold Eu at e
 split at e
 ·rename_i heq
  obtain⟨a,ha,e⟩:=Zk e
  obtain⟨b,hb,e⟩:=Zk e
  obtain⟨c,hc,e⟩:=Zk e
  obtain⟨d,hd,e⟩:=Zk e
  obtain⟨q,e⟩:=Zu.1 e
  cases e
  simp only[aQ,Bool.not_eq_true'] at q
  obtain⟨⟨⟨⟨⟨⟨b1,b2⟩,b3⟩,b4⟩,b5⟩,rfl⟩,b6⟩:=q
  obtain rfl:=bQ b1
  obtain rfl:=bQ b2
  obtain rfl:=bQ b3
  obtain rfl:=bQ b4
  obtain rfl:=bQ b5
  rw[Yb ha,Yb hb,Yb hc,Yb hd] at heq
  exact⟨heq,b6⟩
 ·cases e
structure Stt where
 gd:Nat
 tx:Nat
 dt:Nat
 gv:Nat
 bs:C
 kn:Bool
def stL (S:Stt):List C:=[.ptr S.gd 0,.ptr S.tx 0,.pnil,.map S.dt,.map S.gv,S.bs,.bool S.kn,.bool false]
attribute [go_sem] stL
def G6 (h:Hq) (s:Nat):Option Stt:=match h.get s with
 | some (.row sz [[.ptr gd o1,.ptr tx o2,.pnil,.map dt,.map gv,bs,.bool kn,.bool dd]] ro)=>Y5 (Nat.beq sz 8&&Nat.beq o1 0&&Nat.beq o2 0&&!ro&&!dd) (some ⟨gd,tx,dt,gv,bs,kn⟩)
 | _=>none
theorem Y6 {h:Hq} {s:Nat} {S:Stt} (e:G6 h s=some S):h.get s=some (.row 8 [stL S] false):=by
 unfold G6 at e
 split at e
 ·rename_i heq
  obtain⟨q,e⟩:=Zu.1 e
  cases e
  simp only[aQ,Bool.not_eq_true'] at q
  obtain⟨⟨⟨⟨b1,b2⟩,b3⟩,rfl⟩,rfl⟩:=q
  obtain rfl:=bQ b1
  obtain rfl:=bQ b2
  obtain rfl:=bQ b3
  exact heq
 ·cases e
def Zjk (h:Hq) (l:Nat):Bool:=match h.get l with
 | some (.row sz [[.bool md,_,_,_,_,_,_,.snil]] _)=>md&&Nat.beq sz 8
 | _=>false
theorem Wy {h:Hq} {l:Nat} (e:Zjk h l=true):∃ a b c d x y ro,h.get l=some (.row 8 [[.bool true,a,b,c,d,x,y,.snil]] ro):=by
 unfold Zjk at e
 split at e
 ·rename_i heq
  simp only[aQ] at e
  obtain⟨rfl,b⟩:=e
  obtain rfl:=bQ b
  exact⟨_,_,_,_,_,_,_,heq⟩
 ·cases e
def Bp (gr sz ino jr:Nat) (z:Int):Bool:=decide (0<=z)&&(!(Nat.beq (O8 gr sz ino jr z.toNat).1 0)&&!(Nat.beq (O8 gr sz ino jr z.toNat).1 3))
def zB:List C:=List.replicate 256 (.int .u8 0)
def Zuz:Kn1:=fun args h=>match args with
 | [.c (.ptr s 0)]=>(G6 h s).bind fun _=>some (.w (.c (.bool true)),h)
 | _=>none
def Zu1:Kn1:=fun args h=>match args with
 | [.c (.ptr s 0)]=>(G6 h s).bind fun S=>(Ov h S.tx).bind fun X=>Y5 X.op (some (.w (.c (.int .i64 0)),h))
 | _=>none
def Zu2:Kn1:=fun args h=>match args with
 | [.c (.ptr u 0),.c (.int .i64 z)]=>(Eu h u).bind fun G=>Y5 (decide (z<9223372036854775808)) (some (.w (.c (.bool (Bp G.gr G.sz G.ino G.jr z))),h))
 | _=>none
def Zj4:Kn1:=fun args h=>match args with
 | [.c (.ptr s 0),.c (.int .i64 z)]=>(G6 h s).bind fun S=>(Ov h S.tx).bind fun X=>(Eu h S.gd).bind fun G=>Y5 (X.op&&decide (z<9223372036854775808)&&Bp G.gr G.sz G.ino G.jr z) (some (.w (.c (.int .i64 0)),h))
 | _=>none
def Z3t:Kn1:=fun args h=>match args with
 | [.c .pnil,.c (.int .i64 _)]=>some (.tup [.g zB,.c (.bool false)],h)
 | _=>none
def Yba:Kn1:=fun args h=>match args with
 | [.c (.ptr l 0)]=>Y5 (Zjk h l) (some (.w (.c (.bool true)),h))
 | _=>none
def Z3p:Kn1:=fun args h=>match args with
 | [.c (.ptr l 0),.c (.int .i64 _)]=>Y5 (Zjk h l) (some (.tup [.g zB,.c (.bool false)],h))
 | _=>none
attribute [go_sem] Zir Eu G6 Zjk Zuz Zu1 Zu2 Zj4 Z3t Yba Z3p
theorem Ybn:Yr K 87 (some [])=some (.g (List.replicate 256 (.int .u8 0))):=kR
attribute [go_sem] Ybn
theorem Ycw:Y4 K 300 (.c .snil)=true:=kR
attribute [go_sem] Ycw
theorem Z79:zB.all C.flat=true:=kR
section
variable (Hh:Hearts K Tryz.prog)
include Hh
theorem Ga {args:List W} {h h':Hq} {v:V} (e:Zuz args h=some (v,h')):Zb 81 args h v h':=by
 unfold Zuz at e
 split at e
 ·rename_i s
  obtain⟨S,hs,e⟩:=Zk e
  have hs:=Y6 hs
  cases e
  refine fnG Hh Tryz.f81 ?_
  have Jf:=@hs
  repeat (first|apply Z6|apply Yc|refine Zn Hh Za Ye ?_)
  exact Zd
 ·cases e
theorem Zfl {args:List W} {h h':Hq} {v:V} (e:Zu1 args h=some (v,h')):Zb 126 args h v h':=by
 unfold Zu1 at e
 split at e
 ·rename_i s
  obtain⟨S,hs,e⟩:=Zk e
  have hs:=Y6 hs
  obtain⟨X,ht,e⟩:=Zk e
  have ht:=Yw ht
  obtain⟨bo,e⟩:=Zu.1 e
  cases e
  refine fnG Hh Tryz.f126 ?_
  have Jf:=Jh @hs @ht @bo
  repeat (first|apply Z6|apply O9|apply Yx|apply Yc|refine Goes.Zi Ye ?_|refine Zn Hh (EY (EY Za (Ga Hh)) (Zfm Hh)) Ye ?_)
  exact Zd
 ·cases e
theorem Zd3 {args:List W} {h h':Hq} {v:V} (e:Z3t args h=some (v,h')):Zb 160 args h v h':=by
 unfold Z3t at e
 split at e
 ·rename_i z
  cases e
  obtain⟨v,h',c,rfl,hk⟩:∃ v h',Zb 160 [.c .pnil,.c (.int .i64 z)] h v h'/\v=.tup [.g zB,.c (.bool false)]/\∀ m,m<h.next->h'.get m=h.get m:=by
   refine Ym Hh Tryz.f160 ?_
   repeat (first|apply Z6|apply Yx|apply Yc|refine Goes.Zi Yi ?_|refine Zn Hh Za Yi ?_)
   exact⟨_,_,(by simp (maxSteps:=9^6) +decide (disch:=first|exact dZ|fail) only [go_sem,Zh,simprocAttr,zB]<;>rfl),rfl,fun m hm=>by exact Yn⟩
  exact c.quiet kR hk
 ·cases e
theorem Z76 {args:List W} {h h':Hq} {v:V} (e:Yba args h=some (v,h')):Zb 233 args h v h':=by
 unfold Yba at e
 split at e
 ·rename_i l
  obtain⟨b,e⟩:=Zu.1 e
  obtain⟨a1,a2,a3,a4,a5,a6,ro,hl⟩:=Wy b
  cases e
  refine fnG Hh Tryz.f233 ?_
  have Jf:=@hl
  repeat (first|apply Z6|apply Yc|refine Zn Hh Za Ye ?_)
  exact Zd
 ·cases e
theorem Zd2 {args:List W} {h h':Hq} {v:V} (e:Z3p args h=some (v,h')):Zb 161 args h v h':=by
 unfold Z3p at e
 split at e
 ·rename_i l z
  obtain⟨b,e⟩:=Zu.1 e
  obtain⟨a1,a2,a3,a4,a5,a6,ro,hl⟩:=Wy b
  cases e
  refine Zx.tidy ⟨Tryz.f161,Tryz.func161,kR,by decide⟩ fun tidy=>?_
  have ll:=tidy _ _ hl
  obtain⟨v,h',c,rfl,hk⟩:∃ v h',Zb 161 [.c (.ptr l 0),.c (.int .i64 z)] h v h'/\v=.tup [.g zB,.c (.bool false)]/\∀ m,m<h.next->h'.get m=h.get m:=by
   refine Ym Hh Tryz.f161 ?_
   have Jf:=@hl
   repeat (first|apply Z6|apply O9|apply E9|apply Yx|apply Ea|apply Yc|refine Goes.Zi Gj ?_|refine Zn Hh (EY Za (Z76 Hh)) Gj ?_)
   exact⟨_,_,(by simp (maxSteps:=9^6) +decide (disch:=first|exact dZ|fail) only [go_sem,Zh,simprocAttr,zB]<;>rfl),rfl,fun m hm=>by exact Yn⟩
  exact c.quiet kR hk
 ·cases e
theorem Rx {args:List W} {h h':Hq} {v:V} (e:Zu2 args h=some (v,h')):Zb 82 args h v h':=by
 unfold Zu2 at e
 split at e
 ·rename_i u z
  obtain⟨G,hg,e⟩:=Zk e
  obtain⟨hg,fb⟩:=Jp hg
  have F:=Z5 fb
  obtain⟨bz,e⟩:=Zu.1 e
  have z1:=of_decide_eq_true bz
  cases e
  have gl4:Zm 9 [gdL G] 0 4=some (Jw G.gr G.sz G.ino G.jr):=rfl
  by_cases z0:0<=z
  ·obtain⟨b,rfl⟩:=Int.eq_ofNat_of_zero_le z0
   have c1:=Z3f Hh F h b oM
   obtain⟨⟨k,p,q⟩,hw⟩:∃ w,O8 G.gr G.sz G.ino G.jr b=w:=⟨_,rfl⟩
   have ou:Bp G.gr G.sz G.ino G.jr (b:Int)=(!(Nat.beq k 0)&&!(Nat.beq k 3)):=by
    unfold Bp
    rw[decide_eq_true z0,Int.toNat_natCast,hw]
    rfl
   rw[hw] at c1
   rw[ou]
   by_cases k0:k=0
   ·subst k0
    refine fnG Hh Tryz.f82 ?_
    have Jf:=Y2 @hg @gl4
    iterate 3 (first|apply Z6|refine Zn Hh Za Zt ?_)
    iterate 4 (first|apply Z6|apply Yc|refine Zn Hh (Zj Za c1) Zt ?_)
    exact Zt
   ·by_cases k3:k=3
    ·subst k3
     refine fnG Hh Tryz.f82 ?_
     have Jf:=Y2 @hg @gl4
     iterate 3 (first|apply Z6|refine Zn Hh Za Zt ?_)
     iterate 4 (first|apply Z6|apply Yc|refine Zn Hh (Zj Za c1) Zt ?_)
     exact Zt
    ·
     refine fnG Hh Tryz.f82 ?_
     have Jf:=J4 @hg @gl4 @k0 @k3
     iterate 3 (first|apply Z6|refine Zn Hh Za Zt ?_)
     iterate 4 (first|apply Z6|apply Yc|refine Zn Hh (Zj Za c1) Zt ?_)
     exact Zt
  ·have ou:Bp G.gr G.sz G.ino G.jr z=false:=by
    unfold Bp
    rw[decide_eq_false z0]
    rfl
   rw[ou]
   have c1:=Z72 Hh F h z oM
   refine fnG Hh Tryz.f82 ?_
   have Jf:=Y2 @hg @gl4
   iterate 3 (first|apply Z6|refine Zn Hh Za Zt ?_)
   iterate 4 (first|apply Z6|apply Yc|refine Zn Hh (Zj Za c1) Zt ?_)
   exact Zt
 ·cases e
theorem Vd {args:List W} {h h':Hq} {v:V} (e:Zj4 args h=some (v,h')):Zb 153 args h v h':=by
 unfold Zj4 at e
 split at e
 ·rename_i s z
  obtain⟨S,hs,e⟩:=Zk e
  have hs:=Y6 hs
  obtain⟨X,ht,e⟩:=Zk e
  have ht:=Yw ht
  obtain⟨G,hg,e⟩:=Zk e
  obtain⟨hg,fb⟩:=Jp hg
  obtain⟨b,e⟩:=Zu.1 e
  simp only[aQ,decide_eq_true_eq] at b
  obtain⟨⟨bo,z1⟩,bu⟩:=b
  cases e
  refine fnG Hh Tryz.f153 ?_
  repeat (first|apply Z6|apply Yx|apply Yc|((first|apply Goes.Zi|apply gO fits Hh (EY (EY Za (Zfl Hh)) (Rx Hh))); · simp (maxSteps:=9^6) +decide (disch:=first|exact dZ|fail) only [go_sem,Zm,Zh,simprocAttr,hs,ht,hg,gdL,fb,bo,bu,read1]<;>rfl))
  exact Zd
 ·cases e
end
theorem fo299_0:Zw K 299 0=some (0,ti3):=kR
theorem fo299_1:Zw K 299 1=some (1,ti3):=kR
theorem bu299 (ps:List (Nat × W)):Yr K 299 (some ps)=gW (Yh K 299 ps ti299.zero.cells):=kR
theorem ze299:ti299.zero=(.g ([.int .i64 0,.int .i64 0,.int .i64 0])):=by rfl
attribute [go_sem] fo299_0 fo299_1 bu299 ze299
theorem rs105:Tryz.f105.results.toList=[.tmp 2]:=rfl
theorem rs109:Tryz.f109.results.toList=[.tmp 2,.tmp 3]:=rfl
theorem rs110:Tryz.f110.results.toList=[.tmp 2,.tmp 3]:=rfl
theorem rs111:Tryz.f111.results.toList=[.tmp 2,.tmp 3]:=rfl
theorem rs247:Tryz.f247.results.toList=[.tmp 0]:=rfl
theorem rs187:Tryz.f187.results.toList=[.cell 0 306]:=rfl
theorem rs112:Tryz.f112.results.toList=[.tmp 2]:=rfl
theorem rs113:Tryz.f113.results.toList=[]:=rfl
theorem rs50:Tryz.f50.results.toList=[.tmp 8,.tmp 9]:=rfl
attribute [go_sem] rs105 rs109 rs110 rs111 rs247 rs187 rs112 rs113 rs50
def Z4m:Kn1:=fun args h=>match args with
 | [.g [.int .i64 a,.int .i64 b,.int .i64 c,.int .i64 d]]=>(Ob a).bind fun a=>(Ob b).bind fun b=>(Ob c).bind fun c=>(Ob d).bind fun d=>Y5 (Yu a b c d) (some (.w (.c (.bool true)),h))
 | _=>none
def Zj8:Kn1:=fun args h=>match args with
 | [.g [.int .i64 a,.int .i64 b,.int .i64 c,.int .i64 d]]=>(Ob a).bind fun a=>(Ob b).bind fun b=>(Ob c).bind fun c=>(Ob d).bind fun d=>Y5 (Yu a b c d) (some (.w (.c (.int .i64 ((2+d+a * b:Nat):Int))),h))
 | _=>none
def Z3l:Kn1:=fun args h=>match args with
 | [.c (.int .i64 z)]=>Y5 (decide (1<=z)&&decide (z<=2048)) (some (.w (.c (.bool true)),h))
 | _=>none
def Z3k:Kn1:=fun args h=>match args with
 | [.c (.ptr d 0)]=>(Tn h d).bind fun _=>some (.tup [.c (.ptr (h.next+1+1) 0),.c (.int .i64 0)],((h.new (.map [])).new (.map [])).new (.row 3 [[.ptr d 0,.map h.next,.map (h.next+1)]] false))
 | _=>none
def Z30:Kn1:=fun args h=>match args with
 | [.c (.int .i64 z)]=>Y5 (decide (40<=z)&&decide (z<=256)) (some (.tup [.c (.ptr h.next 0),.c (.int .i64 0)],h.new (.row 3 [[.int .i64 (z - 1),.int .i64 1,.int .i64 0]] false)))
 | _=>none
def Z3q:Kn1:=fun args h=>match args with
 | [.g [.int .i64 a,.int .i64 b,.int .i64 c,.int .i64 d]]=>(Ob a).bind fun a'=>(Ob b).bind fun b'=>(Ob c).bind fun c'=>(Ob d).bind fun d'=>Y5 (Yu a' b' c' d') (some (.tup [.c (.ptr (h.next+1) 0),.c (.int .i64 0)],(h.new (.row 4 [[.int .i64 a,.int .i64 b,.int .i64 c,.int .i64 d]] false)).new (.row 8 [[.bool true,.int .i64 a,.int .i64 b,.int .i64 c,.int .i64 d,.bool false,.int .u32 0,.snil]] false)))
 | _=>none
def Zux:Kn1:=fun args h=>match args with
 | []=>some (.w (.c (.ptr (h.next+1) 0)),(h.new (.map [])).new (.row 1 [[.map h.next]] false))
 | _=>none
def Zvb:Kn1:=fun args h=>match args with
 | []=>some (.w (.g [.map (h.next+1),.map (h.next+1+1),.map (h.next+1+1+1),.ptr (h.next+1+1+1+1+1) 0]),((((((h.new (.row 4 [[.mnil,.mnil,.mnil,.pnil]] false)).new (.map [])).new (.map [])).new (.map [])).new (.map [])).new (.row 1 [[.map (h.next+1+1+1+1)]] false)).put h.next (.row 4 [[.map (h.next+1),.map (h.next+1+1),.map (h.next+1+1+1),.ptr (h.next+1+1+1+1+1) 0]] false))
 | _=>none
def Z4j:Kn1:=fun args h=>match args with
 | [.c (.int .u32 q)]=>some (.w (.c (.ptr (h.next+1+1+1+1+1+1) 0)),(((((((h.new (.row 4 [[.mnil,.mnil,.mnil,.pnil]] false)).new (.map [])).new (.map [])).new (.map [])).new (.map [])).new (.row 1 [[.map (h.next+1+1+1+1)]] false)).put h.next (.row 4 [[.map (h.next+1),.map (h.next+1+1),.map (h.next+1+1+1),.ptr (h.next+1+1+1+1+1) 0]] false)).new (.row 13 [txL ⟨h.next+1,h.next+1+1,h.next+1+1+1,h.next+1+1+1+1+1,q,false,0,0,.mnil,.mnil,.mnil,.mnil,.pnil⟩] false))
 | _=>none
def Zox:Kn1:=fun args h=>match args with
 | [.c (.ptr s 0)]=>match h.get s with
  | some (.row sz [[gd,tx,nw,dt,gv,bs,kn,dd]] ro)=>Y5 (Nat.beq sz 8&&!ro) (some (.tup [],((((h.new (.map [])).put s (.row 8 [[gd,tx,nw,.map h.next,gv,bs,kn,dd]] false)).new (.map [])).put s (.row 8 [[gd,tx,nw,.map h.next,.map (h.next+1),bs,kn,dd]] false)).put s (.row 8 [[gd,tx,nw,.map h.next,.map (h.next+1),bs,.bool false,dd]] false)))
  | _=>none
 | _=>none
def Qc (h:Hq) (d:Nat) (a b c e:Nat) (md q:Int):Hq :=
 let h1:=h.new (.row 4 [Jw a b c e] false)
 let h2:=((h1.new (.map [])).new (.map [])).new (.row 3 [[.ptr d 0,.map h1.next,.map (h1.next+1)]] false)
 let h3:=h2.new (.row 3 [[.int .i64 ((e:Int) - 1),.int .i64 1,.int .i64 0]] false)
 let h4:=(h3.new (.row 4 [Jw a b c e] false)).new (.row 8 [[.bool true,.int .i64 (a:Int),.int .i64 (b:Int),.int .i64 (c:Int),.int .i64 (e:Int),.bool false,.int .u32 0,.snil]] false)
 let h5:=h4.new (.row 9 [gdL ⟨a,b,c,e,md,d,h1.next+1+1,h2.next,h3.next+1⟩] false)
 let h6:=h5.new (.row 8 [[.ptr h4.next 0,.pnil,.pnil,.mnil,.mnil,.snil,.bool false,.bool false]] false)
 let h7:=((((((((h6.new (.row 4 [[.mnil,.mnil,.mnil,.pnil]] false)).new (.map [])).new (.map [])).new (.map [])).new (.map [])).new (.row 1 [[.map (h6.next+1+1+1+1)]] false)).put h6.next (.row 4 [[.map (h6.next+1),.map (h6.next+1+1),.map (h6.next+1+1+1),.ptr (h6.next+1+1+1+1+1) 0]] false)).new (.row 13 [txL ⟨h6.next+1,h6.next+1+1,h6.next+1+1+1,h6.next+1+1+1+1+1,q,false,0,0,.mnil,.mnil,.mnil,.mnil,.pnil⟩] false)).put h5.next (.row 8 [[.ptr h4.next 0,.ptr (h6.next+1+1+1+1+1+1) 0,.pnil,.mnil,.mnil,.snil,.bool false,.bool false]] false)
 ((((h7.new (.map [])).put h5.next (.row 8 [[.ptr h4.next 0,.ptr (h6.next+1+1+1+1+1+1) 0,.pnil,.map h7.next,.mnil,.snil,.bool false,.bool false]] false)).new (.map [])).put h5.next (.row 8 [[.ptr h4.next 0,.ptr (h6.next+1+1+1+1+1+1) 0,.pnil,.map h7.next,.map (h7.next+1),.snil,.bool false,.bool false]] false)).put h5.next (.row 8 [[.ptr h4.next 0,.ptr (h6.next+1+1+1+1+1+1) 0,.pnil,.map h7.next,.map (h7.next+1),.snil,.bool false,.bool false]] false)
def Z39:Kn1:=fun args h=>match args with
 | [.c (.ptr d 0),.g [.int .i64 a,.int .i64 b,.int .i64 c,.int .i64 e],.c (.int .u8 md),.c (.int .u32 q)]=>(Ob a).bind fun a=>(Ob b).bind fun b=>(Ob c).bind fun c=>(Ob e).bind fun e=>(Tn h d).bind fun D=>Y5 (Yu a b c e&&Nat.ble (2+e+a * b) D.n&&decide (1<=md)&&decide (md<=3)&&decide (1<=q)&&decide (q<=2147483648)) (some (.tup [.c (.ptr (h.next+8) 0),.c (.int .i64 0)],Qc h d a b c e md q))
 | _=>none
attribute [go_sem] Z4m Zj8 Z3l Z3k Z30 Z3q Zux Zvb Z4j Zox
section
variable (Hh:Hearts K Tryz.prog)
include Hh
theorem Gi {args:List W} {h h':Hq} {v:V} (e:Z4m args h=some (v,h')):Zb 79 args h v h':=by
 unfold Z4m at e
 split at e
 ·obtain⟨a,ha,e⟩:=Zk e
  obtain⟨b,hb,e⟩:=Zk e
  obtain⟨c,hc,e⟩:=Zk e
  obtain⟨d,hd,e⟩:=Zk e
  obtain⟨f,e⟩:=Zu.1 e
  cases e
  rw[Yb ha,Yb hb,Yb hc,Yb hd]
  exact Znj Hh (Z5 f) h
 ·cases e
theorem F6 {args:List W} {h h':Hq} {v:V} (e:Zj8 args h=some (v,h')):Zb 108 args h v h':=by
 unfold Zj8 at e
 split at e
 ·obtain⟨a,ha,e⟩:=Zk e
  obtain⟨b,hb,e⟩:=Zk e
  obtain⟨c,hc,e⟩:=Zk e
  obtain⟨d,hd,e⟩:=Zk e
  obtain⟨f,e⟩:=Zu.1 e
  cases e
  rw[Yb ha,Yb hb,Yb hc,Yb hd]
  exact Zxw Hh (Z5 f) h
 ·cases e
theorem Z3m {args:List W} {h h':Hq} {v:V} (e:Z3l args h=some (v,h')):Zb 105 args h v h':=by
 unfold Z3l at e
 split at e
 ·rename_i z
  obtain⟨b,e⟩:=Zu.1 e
  simp only[aQ,decide_eq_true_eq] at b
  obtain⟨z0,z1⟩:=b
  cases e
  refine fnG Hh Tryz.f105 ?_
  repeat (first|apply Z6|apply Yc|refine Zn Hh Za Zd ?_)
  exact Zd
 ·cases e
theorem Xn {args:List W} {h h':Hq} {v:V} (e:Z3k args h=some (v,h')):Zb 109 args h v h':=by
 unfold Z3k at e
 split at e
 ·rename_i d
  obtain⟨D,hd,e⟩:=Zk e
  obtain⟨hd,n0,n1⟩:=Ox hd
  cases e
  refine fnG Hh Tryz.f109 ?_
  have Jf:=@hd
  repeat (first|apply Z6|apply Yx|apply Yc|refine Goes.Zi Zas ?_|refine Zn Hh (EY Za (Bq Hh)) Zas ?_)
  exact Zd
 ·cases e
theorem Xp {args:List W} {h h':Hq} {v:V} (e:Z30 args h=some (v,h')):Zb 110 args h v h':=by
 unfold Z30 at e
 split at e
 ·rename_i z
  obtain⟨b,e⟩:=Zu.1 e
  simp only[aQ,decide_eq_true_eq] at b
  obtain⟨z0,z1⟩:=b
  cases e
  refine fnG Hh Tryz.f110 ?_
  repeat (first|apply Z6|apply Yx|apply Yc|refine Goes.Zi Fq ?_|refine Zn Hh Za Fq ?_)
  exact Zd
 ·cases e
theorem Xo {args:List W} {h h':Hq} {v:V} (e:Z3q args h=some (v,h')):Zb 111 args h v h':=by
 unfold Z3q at e
 split at e
 ·obtain⟨a,ha,e⟩:=Zk e
  obtain⟨b,hb,e⟩:=Zk e
  obtain⟨c,hc,e⟩:=Zk e
  obtain⟨d,hd,e⟩:=Zk e
  obtain⟨f,e⟩:=Zu.1 e
  cases e
  rw[Yb ha,Yb hb,Yb hc,Yb hd]
  refine fnG Hh Tryz.f111 ?_
  have Jf:=@f
  repeat (first|apply Z6|apply Yx|apply Yc|refine Goes.Zi Oj ?_|refine Zn Hh (EY Za (Gi Hh)) Oj ?_)
  exact Zd
 ·cases e
theorem Zfi {args:List W} {h h':Hq} {v:V} (e:Zux args h=some (v,h')):Zb 247 args h v h':=by
 unfold Zux at e
 split at e
 ·cases e
  refine fnG Hh Tryz.f247 ?_
  repeat (first|apply Z6|apply Yc|refine Zn Hh Za Fq ?_)
  exact Zd
 ·cases e
theorem Zzh {args:List W} {h h':Hq} {v:V} (e:Zvb args h=some (v,h')):Zb 187 args h v h':=by
 unfold Zvb at e
 split at e
 ·cases e
  refine fnG Hh Tryz.f187 ?_
  repeat (first|apply Z6|apply Yc|refine Zn Hh (EY Za (Zfi Hh)) Z85 ?_)
  exact Zd
 ·cases e
theorem Xr {args:List W} {h h':Hq} {v:V} (e:Z4j args h=some (v,h')):Zb 112 args h v h':=by
 unfold Z4j at e
 split at e
 ·rename_i q
  cases e
  refine fnG Hh Tryz.f112 ?_
  repeat (first|apply Z6|apply Yc|refine Zn Hh (EY Za (Zzh Hh)) Fq ?_)
  exact Zd
 ·cases e
theorem Bu {args:List W} {h h':Hq} {v:V} (e:Zox args h=some (v,h')):Zb 113 args h v h':=by
 unfold Zox at e
 split at e
 ·rename_i s
  split at e
  ·rename_i heq
   obtain⟨b,e⟩:=Zu.1 e
   simp only[aQ,Bool.not_eq_true'] at b
   obtain⟨b1,rfl⟩:=b
   obtain rfl:=bQ b1
   cases e
   refine Zx.tidy ⟨Tryz.f113,Tryz.func113,kR,by decide⟩ fun tidy=>?_
   have l1:=tidy _ _ heq
   refine fnG Hh Tryz.f113 ?_
   have Jf:=@heq
   repeat (first|apply Z6|refine Zn Hh Za Zgk ?_)
   exact Zd
  ·cases e
 ·cases e
end
section
variable (Hh:Hearts K Tryz.prog)
include Hh
set_option maxHeartbeats 4000000 in
theorem Z4a {args:List W} {h h':Hq} {v:V} (e:Z39 args h=some (v,h')):Zb 50 args h v h':=by
 unfold Z39 at e
 split at e
 ·rename_i d a0 b0 c0 e0 md q
  obtain⟨a,ha,e⟩:=Zk e
  obtain⟨b,hb,e⟩:=Zk e
  obtain⟨c,hc,e⟩:=Zk e
  obtain⟨j,hj,e⟩:=Zk e
  obtain⟨D,hd,e⟩:=Zk e
  obtain⟨hd,n0,n1⟩:=Ox hd
  obtain⟨f,e⟩:=Zu.1 e
  simp only[aQ,decide_eq_true_eq] at f
  obtain⟨⟨⟨⟨⟨fb,nn⟩,m1⟩,m3⟩,q1⟩,q2⟩:=f
  have nn:=lQ nn
  have F:=Z5 fb
  obtain⟨g1,g2,g3,g4,g5,g6,g7,g8,g9,g10,g11⟩:=F
  cases e
  rw[Yb ha,Yb hb,Yb hc,Yb hj]
  refine Zx.tidy ⟨Tryz.f50,Tryz.func50,kR,by decide⟩ fun tidy=>?_
  have l1:=tidy _ _ hd
  have h3:md=1\/md=2\/md=3:=oM
  rcases h3 with rfl|rfl|rfl
  ·
   refine fnG Hh Tryz.f50 ?_
   have Jf:=Y2 @hd @fb
   repeat (first|apply Z6|apply O9|apply Yx|apply Yc|refine Goes.Zi Zau ?_|refine Zn Hh (EY (EY (EY (EY (EY (EY (EY (EY Za (Bq Hh)) (Gi Hh)) (F6 Hh)) (Xn Hh)) (Xp Hh)) (Xo Hh)) (Xr Hh)) (Bu Hh)) Zau ?_|refine Fe Hh (EY (EY (EY (EY (EY (EY (EY (EY Za (Bq Hh)) (Gi Hh)) (F6 Hh)) (Xn Hh)) (Xp Hh)) (Xo Hh)) (Xr Hh)) (Bu Hh)) Zhe ?_)
   simp (maxSteps:=9^6) +decide (disch:=first|exact dZ|fail) only [go_sem,Zm,Zh,simprocAttr,Qc,Jw,gdL]<;>rfl
  ·
   refine fnG Hh Tryz.f50 ?_
   have Jf:=Y2 @hd @fb
   repeat (first|apply Z6|apply O9|apply Yx|apply Yc|refine Goes.Zi Zau ?_|refine Zn Hh (EY (EY (EY (EY (EY (EY (EY (EY Za (Bq Hh)) (Gi Hh)) (F6 Hh)) (Xn Hh)) (Xp Hh)) (Xo Hh)) (Xr Hh)) (Bu Hh)) Zau ?_|refine Fe Hh (EY (EY (EY (EY (EY (EY (EY (EY Za (Bq Hh)) (Gi Hh)) (F6 Hh)) (Xn Hh)) (Xp Hh)) (Xo Hh)) (Xr Hh)) (Bu Hh)) Zhe ?_)
   simp (maxSteps:=9^6) +decide (disch:=first|exact dZ|fail) only [go_sem,Zm,Zh,simprocAttr,Qc,Jw,gdL]<;>rfl
  ·
   refine fnG Hh Tryz.f50 ?_
   have Jf:=Y2 @hd @fb
   repeat (first|apply Z6|apply O9|apply Yx|apply Yc|refine Goes.Zi Zau ?_|refine Zn Hh (EY (EY (EY (EY (EY (EY (EY (EY Za (Bq Hh)) (Gi Hh)) (F6 Hh)) (Xn Hh)) (Xp Hh)) (Xo Hh)) (Xr Hh)) (Bu Hh)) Zau ?_|refine Fe Hh (EY (EY (EY (EY (EY (EY (EY (EY Za (Bq Hh)) (Gi Hh)) (F6 Hh)) (Xn Hh)) (Xp Hh)) (Xo Hh)) (Xr Hh)) (Bu Hh)) Zhe ?_)
   simp (maxSteps:=9^6) +decide (disch:=first|exact dZ|fail) only [go_sem,Zm,Zh,simprocAttr,Qc,Jw,gdL]<;>rfl
 ·cases e
end
attribute [go_sem] Z39
end
end Go.Proofs.YtmanipmhebgdbaaGreatDoor
