/- A store at rest: made, open, ours, change, seen, Get; what commits is nothing, the list of the committed is void. -/
import Derived.Test.YtmanipmhebgdbaaGreatDoorTxn2
import Derived.Test.YtmanipmhebgdbaaGreatDoorWhat3
set_option maxRecDepth 100000
set_option maxHeartbeats 4000000
set_option linter.unusedSimpArgs false
set_option linter.unusedVariables false
set_option linter.unusedSectionVars false
namespace Go.Proofs.YtmanipmhebgdbaaGreatDoor
open Go.Ev
noncomputable section
theorem ty22:K.types.get 22=some ti22:=kR
theorem sz22:ti22.size=1:=by rfl
theorem ag22:ti22.agg=false:=by rfl
theorem de22:ti22.desc=(.slice 3):=by rfl
theorem el22:J9 K 22=some ti3:=kR
theorem ty23:K.types.get 23=some ti23:=kR
theorem sz23:ti23.size=1:=by rfl
theorem ag23:ti23.agg=false:=by rfl
theorem de23:ti23.desc=(.pointer 159):=by rfl
theorem ty153:K.types.get 153=some ti153:=kR
theorem sz153:ti153.size=1:=by rfl
theorem ag153:ti153.agg=false:=by rfl
theorem de153:ti153.desc=(.pointer 164):=by rfl
theorem ty155:K.types.get 155=some ti155:=kR
theorem sz155:ti155.size=1:=by rfl
theorem ag155:ti155.agg=false:=by rfl
theorem de155:ti155.desc=(.pointer 246):=by rfl
theorem ty156:K.types.get 156=some ti156:=kR
theorem sz156:ti156.size=1:=by rfl
theorem ag156:ti156.agg=false:=by rfl
theorem mp156:El K 156=some (3,251):=kR
theorem ty157:K.types.get 157=some ti157:=kR
theorem sz157:ti157.size=1:=by rfl
theorem ag157:ti157.agg=false:=by rfl
theorem fo159_0:Zw K 159 0=some (0,ti153):=kR
theorem fo159_1:Zw K 159 1=some (1,ti154):=kR
theorem fo159_2:Zw K 159 2=some (2,ti155):=kR
theorem fo159_3:Zw K 159 3=some (3,ti156):=kR
theorem fo159_4:Zw K 159 4=some (4,ti157):=kR
theorem fo159_5:Zw K 159 5=some (5,ti22):=kR
theorem fo159_6:Zw K 159 6=some (6,ti4):=kR
theorem fo159_7:Zw K 159 7=some (7,ti4):=kR
theorem bu159 (ps:List (Nat × W)):Yq K 159 (some ps)=gW (Yh K 159 ps ti159.zero.cells):=kR
theorem ze159:ti159.zero=(.g ([.pnil,.pnil,.pnil,.mnil,.mnil,.snil,.bool false,.bool false])):=by rfl
theorem sz161:ti161.size=1:=by rfl
theorem ty162:K.types.get 162=some ti162:=kR
theorem sz162:ti162.size=1:=by rfl
theorem ag162:ti162.agg=false:=by rfl
theorem de162:ti162.desc=(.pointer 302):=by rfl
theorem fo164_0:Zw K 164 0=some (0,ti57):=kR
theorem fo164_1:Zw K 164 1=some (4,ti5):=kR
theorem fo164_2:Zw K 164 2=some (5,ti25):=kR
theorem fo164_3:Zw K 164 3=some (6,ti160):=kR
theorem fo164_4:Zw K 164 4=some (7,ti161):=kR
theorem fo164_5:Zw K 164 5=some (8,ti162):=kR
theorem bu164 (ps:List (Nat × W)):Yq K 164 (some ps)=gW (Yh K 164 ps ti164.zero.cells):=kR
theorem ze164:ti164.zero=(.g ([.int .i64 0,.int .i64 0,.int .i64 0,.int .i64 0,.int .u8 0,.pnil,.pnil,.pnil,.pnil])):=by rfl
theorem ty251:K.types.get 251=some ti251:=kR
theorem sz251:ti251.size=257:=by rfl
theorem fo251_0:Zw K 251 0=some (0,ti3):=kR
theorem fo251_1:Zw K 251 1=some (1,ti87):=kR
theorem ze251:ti251.zero=(.g (List.replicate 1 (.int .i64 0)++List.replicate 256 (.int .u8 0))):=by rfl
theorem ty300:K.types.get 300=some ti300:=kR
theorem sz300:ti300.size=1:=by rfl
theorem ag300:ti300.agg=false:=by rfl
theorem fo302_0:Zw K 302 0=some (0,ti4):=kR
theorem fo302_1:Zw K 302 1=some (1,ti57):=kR
theorem fo302_4:Zw K 302 4=some (7,ti300):=kR
theorem bu302 (ps:List (Nat × W)):Yq K 302 (some ps)=gW (Yh K 302 ps ti302.zero.cells):=kR
theorem ze302:ti302.zero=(.g ([.bool false,.int .i64 0,.int .i64 0,.int .i64 0,.int .i64 0,.bool false,.int .u32 0,.snil])):=by rfl
attribute [go_sem] ty22 sz22 ag22 de22 el22 ty23 sz23 ag23 de23 ty153 sz153 ag153 de153 ty155 sz155 ag155 de155 ty156 sz156 ag156 mp156 ty157 sz157 ag157 fo159_0 fo159_1 fo159_2 fo159_3 fo159_4 fo159_5 fo159_6 fo159_7 bu159 ze159 sz161 ty162 sz162 ag162 de162 fo164_0 fo164_1 fo164_2 fo164_3 fo164_4 fo164_5 bu164 ze164 ty251 sz251 fo251_0 fo251_1 ze251 ty300 sz300 ag300 fo302_0 fo302_1 fo302_4 bu302 ze302
theorem rs81:Tryz.f81.results.toList=[.tmp 2]:=rfl
theorem rs126:Tryz.f126.results.toList=[.tmp 2]:=rfl
theorem rs82:Tryz.f82.results.toList=[.tmp 4]:=rfl
theorem rs153:Tryz.f153.results.toList=[.tmp 4]:=rfl
theorem rs160:Tryz.f160.results.toList=[.cell 4 87,.tmp 5]:=rfl
theorem rs233:Tryz.f233.results.toList=[.tmp 2]:=rfl
theorem rs161:Tryz.f161.results.toList=[.cell 4 87,.tmp 5]:=rfl
attribute [go_sem] rs81 rs126 rs82 rs153 rs160 rs233 rs161
structure Gd where
 gr:Nat
 sz:Nat
 ino:Nat
 jr:Nat
 md:Int
 dk:Nat
 ca:Nat
 ri:Nat
 li:Nat
def gdL (G:Gd):List C:=[.int .i64 (G.gr:Int),.int .i64 (G.sz:Int),.int .i64 (G.ino:Int),.int .i64 (G.jr:Int),.int .u8 G.md,.ptr G.dk 0,.ptr G.ca 0,.ptr G.ri 0,.ptr G.li 0]
def Yw (a b c d:Nat):Bool:=Nat.ble 1 a&&Nat.ble a 4&&Nat.ble 16 b&&Nat.ble b 512&&Nat.ble 4 c&&Nat.ble c 64&&Nat.beq (c % 4) 0&&Nat.ble 40 d&&Nat.ble d 256&&Nat.ble (3+c / 4) b&&Nat.ble (2+d+a * b) 2048
theorem Z5 {a b c d:Nat} (h:Yw a b c d=true):Fine a b c d:=by
 simp only[Yw,aQ] at h
 obtain⟨⟨⟨⟨⟨⟨⟨⟨⟨⟨h1,h2⟩,h3⟩,h4⟩,h5⟩,h6⟩,h7⟩,h8⟩,h9⟩,h10⟩,h11⟩:=h
 exact⟨lQ h1,lQ h2,lQ h3,lQ h4,lQ h5,lQ h6,bQ h7,lQ h8,lQ h9,lQ h10,lQ h11⟩
def U5 (z:Int):Option Nat:=bif decide (0<=z) then some z.toNat else none
theorem Yb {z:Int} {n:Nat} (e:U5 z=some n):z=(n:Int):=by
 unfold U5 at e
 cases h:decide (0<=z) with
 | true=>rw[h] at e; cases e; have:=of_decide_eq_true h; omega
 | false=>rw[h] at e; cases e
theorem Zjf (n:Nat):U5 (n:Int)=some n:=by
 unfold U5
 rw[decide_eq_true (by omega:(0:Int)<=(n:Int))]
 show some ((n:Int).toNat)=_
 rw[Int.toNat_natCast]
def Dz (h:Hq) (u:Nat):Option Gd:=match h.get u with
 | some (.row s [[.int .i64 a,.int .i64 b,.int .i64 c,.int .i64 d,.int .u8 md,.ptr dk o1,.ptr ca o2,.ptr ri o3,.ptr li o4]] ro)=>(U5 a).bind fun a=>(U5 b).bind fun b=>(U5 c).bind fun c=>(U5 d).bind fun d=>Y5 (Nat.beq s 9&&Nat.beq o1 0&&Nat.beq o2 0&&Nat.beq o3 0&&Nat.beq o4 0&&!ro&&Yw a b c d) (some ⟨a,b,c,d,md,dk,ca,ri,li⟩)
 | _=>none
theorem Jj {h:Hq} {u:Nat} {G:Gd} (e:Dz h u=some G):h.get u=some (.row 9 [gdL G] false)/\Yw G.gr G.sz G.ino G.jr=true:=by
 unfold Dz at e
 split at e
 ·rename_i heq
  obtain⟨a,ha,e⟩:=Zk e
  obtain⟨b,hb,e⟩:=Zk e
  obtain⟨c,hc,e⟩:=Zk e
  obtain⟨d,hd,e⟩:=Zk e
  obtain⟨q,e⟩:=Zv.1 e
  cases e
  simp only[aQ,Bool.not_eq_true'] at q
  obtain⟨⟨⟨⟨⟨⟨b1,b2⟩,b3⟩,b4⟩,b5⟩,rfl⟩,b6⟩:=q
  obtain rfl:=bQ b1
  obtain rfl:=bQ b2
  obtain rfl:=bQ b3
  obtain rfl:=bQ b4
  obtain rfl:=bQ b5
  rw[Yb ha,Yb hb,Yb hc,Yb hd] at heq
  exact⟨heq,b6⟩
 ·cases e
structure Stt where
 gd:Nat
 tx:Nat
 dt:Nat
 gv:Nat
 bs:C
 kn:Bool
def stL (S:Stt):List C:=[.ptr S.gd 0,.ptr S.tx 0,.pnil,.map S.dt,.map S.gv,S.bs,.bool S.kn,.bool false]
attribute [go_sem] stL
def Gn (h:Hq) (s:Nat):Option Stt:=match h.get s with
 | some (.row sz [[.ptr gd o1,.ptr tx o2,.pnil,.map dt,.map gv,bs,.bool kn,.bool dd]] ro)=>Y5 (Nat.beq sz 8&&Nat.beq o1 0&&Nat.beq o2 0&&!ro&&!dd) (some ⟨gd,tx,dt,gv,bs,kn⟩)
 | _=>none
theorem Y2 {h:Hq} {s:Nat} {S:Stt} (e:Gn h s=some S):h.get s=some (.row 8 [stL S] false):=by
 unfold Gn at e
 split at e
 ·rename_i heq
  obtain⟨q,e⟩:=Zv.1 e
  cases e
  simp only[aQ,Bool.not_eq_true'] at q
  obtain⟨⟨⟨⟨b1,b2⟩,b3⟩,rfl⟩,rfl⟩:=q
  obtain rfl:=bQ b1
  obtain rfl:=bQ b2
  obtain rfl:=bQ b3
  exact heq
 ·cases e
def Zj8 (h:Hq) (l:Nat):Bool:=match h.get l with
 | some (.row sz [[.bool md,_,_,_,_,_,_,.snil]] _)=>md&&Nat.beq sz 8
 | _=>false
theorem Qh {h:Hq} {l:Nat} (e:Zj8 h l=true):∃ a b c d x y ro,h.get l=some (.row 8 [[.bool true,a,b,c,d,x,y,.snil]] ro):=by
 unfold Zj8 at e
 split at e
 ·rename_i heq
  simp only[aQ] at e
  obtain⟨rfl,b⟩:=e
  obtain rfl:=bQ b
  exact⟨_,_,_,_,_,_,_,heq⟩
 ·cases e
def Bb (gr sz ino jr:Nat) (z:Int):Bool:=decide (0<=z)&&(!(Nat.beq (O5 gr sz ino jr z.toNat).1 0)&&!(Nat.beq (O5 gr sz ino jr z.toNat).1 3))
def zB:List C:=List.replicate 256 (.int .u8 0)
def Zvl:Kn1:=fun args h=>match args with
 | [.c (.ptr s 0)]=>(Gn h s).bind fun _=>some (.w (.c (.bool true)),h)
 | _=>none
def Zvn:Kn1:=fun args h=>match args with
 | [.c (.ptr s 0)]=>(Gn h s).bind fun S=>(Oe h S.tx).bind fun X=>Y5 X.op (some (.w (.c (.int .i64 0)),h))
 | _=>none
def Zvo:Kn1:=fun args h=>match args with
 | [.c (.ptr u 0),.c (.int .i64 z)]=>(Dz h u).bind fun G=>Y5 (decide (z<9223372036854775808)) (some (.w (.c (.bool (Bb G.gr G.sz G.ino G.jr z))),h))
 | _=>none
def Zkr:Kn1:=fun args h=>match args with
 | [.c (.ptr s 0),.c (.int .i64 z)]=>(Gn h s).bind fun S=>(Oe h S.tx).bind fun X=>(Dz h S.gd).bind fun G=>Y5 (X.op&&decide (z<9223372036854775808)&&Bb G.gr G.sz G.ino G.jr z) (some (.w (.c (.int .i64 0)),h))
 | _=>none
def Z4q:Kn1:=fun args h=>match args with
 | [.c .pnil,.c (.int .i64 _)]=>some (.tup [.g zB,.c (.bool false)],h)
 | _=>none
def Yb8:Kn1:=fun args h=>match args with
 | [.c (.ptr l 0)]=>Y5 (Zj8 h l) (some (.w (.c (.bool true)),h))
 | _=>none
def Z4m:Kn1:=fun args h=>match args with
 | [.c (.ptr l 0),.c (.int .i64 _)]=>Y5 (Zj8 h l) (some (.tup [.g zB,.c (.bool false)],h))
 | _=>none
attribute [go_sem] Zjf Dz Gn Zj8 Zvl Zvn Zvo Zkr Z4q Yb8 Z4m
theorem Ycj:Yq K 87 (some [])=some (.g (List.replicate 256 (.int .u8 0))):=kR
attribute [go_sem] Ycj
theorem Ydr:Y3 K 300 (.c .snil)=true:=kR
attribute [go_sem] Ydr
theorem Z89:zB.all C.flat=true:=kR
section
variable (Hh:Hearts K Tryz.prog)
include Hh
theorem O7 {args:List W} {h h':Hq} {v:V} (e:Zvl args h=some (v,h')):Zb 81 args h v h':=by
 unfold Zvl at e
 split at e
 ·rename_i s
  obtain⟨S,hs,e⟩:=Zk e
  have hs:=Y2 hs
  cases e
  refine fnG Hh Tryz.f81 ?_
  have Jf:=@hs
  repeat (first|apply Z6|apply Yc|refine Zo Hh Za Ye ?_)
  exact Zf
 ·cases e
theorem Zf6 {args:List W} {h h':Hq} {v:V} (e:Zvn args h=some (v,h')):Zb 126 args h v h':=by
 unfold Zvn at e
 split at e
 ·rename_i s
  obtain⟨S,hs,e⟩:=Zk e
  have hs:=Y2 hs
  obtain⟨X,ht,e⟩:=Zk e
  have ht:=Yr ht
  obtain⟨bo,e⟩:=Zv.1 e
  cases e
  refine fnG Hh Tryz.f126 ?_
  have Jf:=Ja @hs @ht @bo
  repeat (first|apply Z6|apply Og|apply Yt|apply Yc|refine Goes.Zh Ye ?_|refine Zo Hh (EY (EY Za (O7 Hh)) (Zf7 Hh)) Ye ?_)
  exact Zf
 ·cases e
theorem Zeq {args:List W} {h h':Hq} {v:V} (e:Z4q args h=some (v,h')):Zb 160 args h v h':=by
 unfold Z4q at e
 split at e
 ·rename_i z
  cases e
  obtain⟨v,h',c,rfl,hk⟩:∃ v h',Zb 160 [.c .pnil,.c (.int .i64 z)] h v h'/\v=.tup [.g zB,.c (.bool false)]/\∀ m,m<h.next->h'.get m=h.get m:=by
   refine Yk Hh Tryz.f160 ?_
   repeat (first|apply Z6|apply Yt|apply Yc|refine Goes.Zh Yn ?_|refine Zo Hh Za Yn ?_)
   exact⟨_,_,(by simp (maxSteps:=9^6) +decide (disch:=first|exact dZ|fail) only [go_sem,Zi,simprocAttr,zB]<;>rfl),rfl,fun m hm=>by exact Ym⟩
  exact c.quiet kR hk
 ·cases e
theorem Z86 {args:List W} {h h':Hq} {v:V} (e:Yb8 args h=some (v,h')):Zb 233 args h v h':=by
 unfold Yb8 at e
 split at e
 ·rename_i l
  obtain⟨b,e⟩:=Zv.1 e
  obtain⟨a1,a2,a3,a4,a5,a6,ro,hl⟩:=Qh b
  cases e
  refine fnG Hh Tryz.f233 ?_
  have Jf:=@hl
  repeat (first|apply Z6|apply Yc|refine Zo Hh Za Ye ?_)
  exact Zf
 ·cases e
theorem Zep {args:List W} {h h':Hq} {v:V} (e:Z4m args h=some (v,h')):Zb 161 args h v h':=by
 unfold Z4m at e
 split at e
 ·rename_i l z
  obtain⟨b,e⟩:=Zv.1 e
  obtain⟨a1,a2,a3,a4,a5,a6,ro,hl⟩:=Qh b
  cases e
  refine Zu.tidy ⟨Tryz.f161,Tryz.func161,kR,by decide⟩ fun tidy=>?_
  have ll:=tidy _ _ hl
  obtain⟨v,h',c,rfl,hk⟩:∃ v h',Zb 161 [.c (.ptr l 0),.c (.int .i64 z)] h v h'/\v=.tup [.g zB,.c (.bool false)]/\∀ m,m<h.next->h'.get m=h.get m:=by
   refine Yk Hh Tryz.f161 ?_
   have Jf:=@hl
   repeat (first|apply Z6|apply Og|apply Ea|apply Yt|apply Bv|apply Yc|refine Goes.Zh Gi ?_|refine Zo Hh (EY Za (Z86 Hh)) Gi ?_)
   exact⟨_,_,(by simp (maxSteps:=9^6) +decide (disch:=first|exact dZ|fail) only [go_sem,Zi,simprocAttr,zB]<;>rfl),rfl,fun m hm=>by exact Ym⟩
  exact c.quiet kR hk
 ·cases e
theorem R5 {args:List W} {h h':Hq} {v:V} (e:Zvo args h=some (v,h')):Zb 82 args h v h':=by
 unfold Zvo at e
 split at e
 ·rename_i u z
  obtain⟨G,hg,e⟩:=Zk e
  obtain⟨hg,fb⟩:=Jj hg
  have F:=Z5 fb
  obtain⟨bz,e⟩:=Zv.1 e
  have z1:=of_decide_eq_true bz
  cases e
  have gl4:Zn 9 [gdL G] 0 4=some (Jt G.gr G.sz G.ino G.jr):=rfl
  by_cases z0:0<=z
  ·obtain⟨b,rfl⟩:=Int.eq_ofNat_of_zero_le z0
   have c1:=Z4b Hh F h b oM
   obtain⟨⟨k,p,q⟩,hw⟩:∃ w,O5 G.gr G.sz G.ino G.jr b=w:=⟨_,rfl⟩
   have ou:Bb G.gr G.sz G.ino G.jr (b:Int)=(!(Nat.beq k 0)&&!(Nat.beq k 3)):=by
    unfold Bb
    rw[decide_eq_true z0,Int.toNat_natCast,hw]
    rfl
   rw[hw] at c1
   rw[ou]
   by_cases k0:k=0
   ·subst k0
    refine fnG Hh Tryz.f82 ?_
    have Jf:=Yy @hg @gl4
    iterate 3 (first|apply Z6|refine Zo Hh Za Zr ?_)
    iterate 4 (first|apply Z6|apply Yc|refine Zo Hh (Zj Za c1) Zr ?_)
    exact Zr
   ·by_cases k3:k=3
    ·subst k3
     refine fnG Hh Tryz.f82 ?_
     have Jf:=Yy @hg @gl4
     iterate 3 (first|apply Z6|refine Zo Hh Za Zr ?_)
     iterate 4 (first|apply Z6|apply Yc|refine Zo Hh (Zj Za c1) Zr ?_)
     exact Zr
    ·
     refine fnG Hh Tryz.f82 ?_
     have Jf:=J6 @hg @gl4 @k0 @k3
     iterate 3 (first|apply Z6|refine Zo Hh Za Zr ?_)
     iterate 4 (first|apply Z6|apply Yc|refine Zo Hh (Zj Za c1) Zr ?_)
     exact Zr
  ·have ou:Bb G.gr G.sz G.ino G.jr z=false:=by
    unfold Bb
    rw[decide_eq_false z0]
    rfl
   rw[ou]
   have c1:=Z80 Hh F h z oM
   refine fnG Hh Tryz.f82 ?_
   have Jf:=Yy @hg @gl4
   iterate 3 (first|apply Z6|refine Zo Hh Za Zr ?_)
   iterate 4 (first|apply Z6|apply Yc|refine Zo Hh (Zj Za c1) Zr ?_)
   exact Zr
 ·cases e
theorem Vj {args:List W} {h h':Hq} {v:V} (e:Zkr args h=some (v,h')):Zb 153 args h v h':=by
 unfold Zkr at e
 split at e
 ·rename_i s z
  obtain⟨S,hs,e⟩:=Zk e
  have hs:=Y2 hs
  obtain⟨X,ht,e⟩:=Zk e
  have ht:=Yr ht
  obtain⟨G,hg,e⟩:=Zk e
  obtain⟨hg,fb⟩:=Jj hg
  obtain⟨b,e⟩:=Zv.1 e
  simp only[aQ,decide_eq_true_eq] at b
  obtain⟨⟨bo,z1⟩,bu⟩:=b
  cases e
  refine fnG Hh Tryz.f153 ?_
  repeat (first|apply Z6|apply Yt|apply Yc|((first|apply Goes.Zh|apply Goes.ops2 fits Hh (EY (EY Za (Zf6 Hh)) (R5 Hh))); · simp (maxSteps:=9^6) +decide (disch:=first|exact dZ|fail) only [go_sem,Zn,Zi,simprocAttr,hs,ht,hg,gdL,fb,bo,bu,read1]<;>rfl))
  exact Zf
 ·cases e
end
theorem fo299_0:Zw K 299 0=some (0,ti3):=kR
theorem fo299_1:Zw K 299 1=some (1,ti3):=kR
theorem bu299 (ps:List (Nat × W)):Yq K 299 (some ps)=gW (Yh K 299 ps ti299.zero.cells):=kR
theorem ze299:ti299.zero=(.g ([.int .i64 0,.int .i64 0,.int .i64 0])):=by rfl
attribute [go_sem] fo299_0 fo299_1 bu299 ze299
theorem rs105:Tryz.f105.results.toList=[.tmp 2]:=rfl
theorem rs109:Tryz.f109.results.toList=[.tmp 2,.tmp 3]:=rfl
theorem rs110:Tryz.f110.results.toList=[.tmp 2,.tmp 3]:=rfl
theorem rs111:Tryz.f111.results.toList=[.tmp 2,.tmp 3]:=rfl
theorem rs247:Tryz.f247.results.toList=[.tmp 0]:=rfl
theorem rs187:Tryz.f187.results.toList=[.cell 0 306]:=rfl
theorem rs112:Tryz.f112.results.toList=[.tmp 2]:=rfl
theorem rs113:Tryz.f113.results.toList=[]:=rfl
theorem rs50:Tryz.f50.results.toList=[.tmp 8,.tmp 9]:=rfl
attribute [go_sem] rs105 rs109 rs110 rs111 rs247 rs187 rs112 rs113 rs50
def Z5k:Kn1:=fun args h=>match args with
 | [.g [.int .i64 a,.int .i64 b,.int .i64 c,.int .i64 d]]=>(U5 a).bind fun a=>(U5 b).bind fun b=>(U5 c).bind fun c=>(U5 d).bind fun d=>Y5 (Yw a b c d) (some (.w (.c (.bool true)),h))
 | _=>none
def Zkv:Kn1:=fun args h=>match args with
 | [.g [.int .i64 a,.int .i64 b,.int .i64 c,.int .i64 d]]=>(U5 a).bind fun a=>(U5 b).bind fun b=>(U5 c).bind fun c=>(U5 d).bind fun d=>Y5 (Yw a b c d) (some (.w (.c (.int .i64 ((2+d+a * b:Nat):Int))),h))
 | _=>none
def Z4i:Kn1:=fun args h=>match args with
 | [.c (.int .i64 z)]=>Y5 (decide (1<=z)&&decide (z<=2048)) (some (.w (.c (.bool true)),h))
 | _=>none
def Z4h:Kn1:=fun args h=>match args with
 | [.c (.ptr d 0)]=>(Tw h d).bind fun _=>some (.tup [.c (.ptr (h.next+1+1) 0),.c (.int .i64 0)],((h.new (.map [])).new (.map [])).new (.row 3 [[.ptr d 0,.map h.next,.map (h.next+1)]] false))
 | _=>none
def Z4x:Kn1:=fun args h=>match args with
 | [.c (.int .i64 z)]=>Y5 (decide (40<=z)&&decide (z<=256)) (some (.tup [.c (.ptr h.next 0),.c (.int .i64 0)],h.new (.row 3 [[.int .i64 (z - 1),.int .i64 1,.int .i64 0]] false)))
 | _=>none
def Z4n:Kn1:=fun args h=>match args with
 | [.g [.int .i64 a,.int .i64 b,.int .i64 c,.int .i64 d]]=>(U5 a).bind fun a'=>(U5 b).bind fun b'=>(U5 c).bind fun c'=>(U5 d).bind fun d'=>Y5 (Yw a' b' c' d') (some (.tup [.c (.ptr (h.next+1) 0),.c (.int .i64 0)],(h.new (.row 4 [[.int .i64 a,.int .i64 b,.int .i64 c,.int .i64 d]] false)).new (.row 8 [[.bool true,.int .i64 a,.int .i64 b,.int .i64 c,.int .i64 d,.bool false,.int .u32 0,.snil]] false)))
 | _=>none
def Zvj:Kn1:=fun args h=>match args with
 | []=>some (.w (.c (.ptr (h.next+1) 0)),(h.new (.map [])).new (.row 1 [[.map h.next]] false))
 | _=>none
def Zvx:Kn1:=fun args h=>match args with
 | []=>some (.w (.g [.map (h.next+1),.map (h.next+1+1),.map (h.next+1+1+1),.ptr (h.next+1+1+1+1+1) 0]),((((((h.new (.row 4 [[.mnil,.mnil,.mnil,.pnil]] false)).new (.map [])).new (.map [])).new (.map [])).new (.map [])).new (.row 1 [[.map (h.next+1+1+1+1)]] false)).put h.next (.row 4 [[.map (h.next+1),.map (h.next+1+1),.map (h.next+1+1+1),.ptr (h.next+1+1+1+1+1) 0]] false))
 | _=>none
def Z5g:Kn1:=fun args h=>match args with
 | [.c (.int .u32 q)]=>some (.w (.c (.ptr (h.next+1+1+1+1+1+1) 0)),(((((((h.new (.row 4 [[.mnil,.mnil,.mnil,.pnil]] false)).new (.map [])).new (.map [])).new (.map [])).new (.map [])).new (.row 1 [[.map (h.next+1+1+1+1)]] false)).put h.next (.row 4 [[.map (h.next+1),.map (h.next+1+1),.map (h.next+1+1+1),.ptr (h.next+1+1+1+1+1) 0]] false)).new (.row 13 [txL ⟨h.next+1,h.next+1+1,h.next+1+1+1,h.next+1+1+1+1+1,q,false,0,0,.mnil,.mnil,.mnil,.mnil,.pnil⟩] false))
 | _=>none
def Zpj:Kn1:=fun args h=>match args with
 | [.c (.ptr s 0)]=>match h.get s with
  | some (.row sz [[gd,tx,nw,dt,gv,bs,kn,dd]] ro)=>Y5 (Nat.beq sz 8&&!ro) (some (.tup [],((((h.new (.map [])).put s (.row 8 [[gd,tx,nw,.map h.next,gv,bs,kn,dd]] false)).new (.map [])).put s (.row 8 [[gd,tx,nw,.map h.next,.map (h.next+1),bs,kn,dd]] false)).put s (.row 8 [[gd,tx,nw,.map h.next,.map (h.next+1),bs,.bool false,dd]] false)))
  | _=>none
 | _=>none
def Qn (h:Hq) (d:Nat) (a b c e:Nat) (md q:Int):Hq :=
 let h1:=h.new (.row 4 [Jt a b c e] false)
 let h2:=((h1.new (.map [])).new (.map [])).new (.row 3 [[.ptr d 0,.map h1.next,.map (h1.next+1)]] false)
 let h3:=h2.new (.row 3 [[.int .i64 ((e:Int) - 1),.int .i64 1,.int .i64 0]] false)
 let h4:=(h3.new (.row 4 [Jt a b c e] false)).new (.row 8 [[.bool true,.int .i64 (a:Int),.int .i64 (b:Int),.int .i64 (c:Int),.int .i64 (e:Int),.bool false,.int .u32 0,.snil]] false)
 let h5:=h4.new (.row 9 [gdL ⟨a,b,c,e,md,d,h1.next+1+1,h2.next,h3.next+1⟩] false)
 let h6:=h5.new (.row 8 [[.ptr h4.next 0,.pnil,.pnil,.mnil,.mnil,.snil,.bool false,.bool false]] false)
 let h7:=((((((((h6.new (.row 4 [[.mnil,.mnil,.mnil,.pnil]] false)).new (.map [])).new (.map [])).new (.map [])).new (.map [])).new (.row 1 [[.map (h6.next+1+1+1+1)]] false)).put h6.next (.row 4 [[.map (h6.next+1),.map (h6.next+1+1),.map (h6.next+1+1+1),.ptr (h6.next+1+1+1+1+1) 0]] false)).new (.row 13 [txL ⟨h6.next+1,h6.next+1+1,h6.next+1+1+1,h6.next+1+1+1+1+1,q,false,0,0,.mnil,.mnil,.mnil,.mnil,.pnil⟩] false)).put h5.next (.row 8 [[.ptr h4.next 0,.ptr (h6.next+1+1+1+1+1+1) 0,.pnil,.mnil,.mnil,.snil,.bool false,.bool false]] false)
 ((((h7.new (.map [])).put h5.next (.row 8 [[.ptr h4.next 0,.ptr (h6.next+1+1+1+1+1+1) 0,.pnil,.map h7.next,.mnil,.snil,.bool false,.bool false]] false)).new (.map [])).put h5.next (.row 8 [[.ptr h4.next 0,.ptr (h6.next+1+1+1+1+1+1) 0,.pnil,.map h7.next,.map (h7.next+1),.snil,.bool false,.bool false]] false)).put h5.next (.row 8 [[.ptr h4.next 0,.ptr (h6.next+1+1+1+1+1+1) 0,.pnil,.map h7.next,.map (h7.next+1),.snil,.bool false,.bool false]] false)
def Z46:Kn1:=fun args h=>match args with
 | [.c (.ptr d 0),.g [.int .i64 a,.int .i64 b,.int .i64 c,.int .i64 e],.c (.int .u8 md),.c (.int .u32 q)]=>(U5 a).bind fun a=>(U5 b).bind fun b=>(U5 c).bind fun c=>(U5 e).bind fun e=>(Tw h d).bind fun D=>Y5 (Yw a b c e&&Nat.ble (2+e+a * b) D.n&&decide (1<=md)&&decide (md<=3)&&decide (1<=q)&&decide (q<=2147483648)) (some (.tup [.c (.ptr (h.next+8) 0),.c (.int .i64 0)],Qn h d a b c e md q))
 | _=>none
attribute [go_sem] Z5k Zkv Z4i Z4h Z4x Z4n Zvj Zvx Z5g Zpj
section
variable (Hh:Hearts K Tryz.prog)
include Hh
theorem Gh {args:List W} {h h':Hq} {v:V} (e:Z5k args h=some (v,h')):Zb 79 args h v h':=by
 unfold Z5k at e
 split at e
 ·obtain⟨a,ha,e⟩:=Zk e
  obtain⟨b,hb,e⟩:=Zk e
  obtain⟨c,hc,e⟩:=Zk e
  obtain⟨d,hd,e⟩:=Zk e
  obtain⟨f,e⟩:=Zv.1 e
  cases e
  rw[Yb ha,Yb hb,Yb hc,Yb hd]
  exact Zn6 Hh (Z5 f) h
 ·cases e
theorem Fy {args:List W} {h h':Hq} {v:V} (e:Zkv args h=some (v,h')):Zb 108 args h v h':=by
 unfold Zkv at e
 split at e
 ·obtain⟨a,ha,e⟩:=Zk e
  obtain⟨b,hb,e⟩:=Zk e
  obtain⟨c,hc,e⟩:=Zk e
  obtain⟨d,hd,e⟩:=Zk e
  obtain⟨f,e⟩:=Zv.1 e
  cases e
  rw[Yb ha,Yb hb,Yb hc,Yb hd]
  exact Zyn Hh (Z5 f) h
 ·cases e
theorem Z4j {args:List W} {h h':Hq} {v:V} (e:Z4i args h=some (v,h')):Zb 105 args h v h':=by
 unfold Z4i at e
 split at e
 ·rename_i z
  obtain⟨b,e⟩:=Zv.1 e
  simp only[aQ,decide_eq_true_eq] at b
  obtain⟨z0,z1⟩:=b
  cases e
  refine fnG Hh Tryz.f105 ?_
  repeat (first|apply Z6|apply Yc|refine Zo Hh Za Zf ?_)
  exact Zf
 ·cases e
theorem Xv {args:List W} {h h':Hq} {v:V} (e:Z4h args h=some (v,h')):Zb 109 args h v h':=by
 unfold Z4h at e
 split at e
 ·rename_i d
  obtain⟨D,hd,e⟩:=Zk e
  obtain⟨hd,n0,n1⟩:=Oo hd
  cases e
  refine fnG Hh Tryz.f109 ?_
  have Jf:=@hd
  repeat (first|apply Z6|apply Yt|apply Yc|refine Goes.Zh Mt ?_|refine Zo Hh (EY Za (Bn Hh)) Mt ?_)
  exact Zf
 ·cases e
theorem Xx {args:List W} {h h':Hq} {v:V} (e:Z4x args h=some (v,h')):Zb 110 args h v h':=by
 unfold Z4x at e
 split at e
 ·rename_i z
  obtain⟨b,e⟩:=Zv.1 e
  simp only[aQ,decide_eq_true_eq] at b
  obtain⟨z0,z1⟩:=b
  cases e
  refine fnG Hh Tryz.f110 ?_
  repeat (first|apply Z6|apply Yt|apply Yc|refine Goes.Zh Fh ?_|refine Zo Hh Za Fh ?_)
  exact Zf
 ·cases e
theorem Xw {args:List W} {h h':Hq} {v:V} (e:Z4n args h=some (v,h')):Zb 111 args h v h':=by
 unfold Z4n at e
 split at e
 ·obtain⟨a,ha,e⟩:=Zk e
  obtain⟨b,hb,e⟩:=Zk e
  obtain⟨c,hc,e⟩:=Zk e
  obtain⟨d,hd,e⟩:=Zk e
  obtain⟨f,e⟩:=Zv.1 e
  cases e
  rw[Yb ha,Yb hb,Yb hc,Yb hd]
  refine fnG Hh Tryz.f111 ?_
  have Jf:=@f
  repeat (first|apply Z6|apply Yt|apply Yc|refine Goes.Zh Oc ?_|refine Zo Hh (EY Za (Gh Hh)) Oc ?_)
  exact Zf
 ·cases e
theorem Zf4 {args:List W} {h h':Hq} {v:V} (e:Zvj args h=some (v,h')):Zb 247 args h v h':=by
 unfold Zvj at e
 split at e
 ·cases e
  refine fnG Hh Tryz.f247 ?_
  repeat (first|apply Z6|apply Yc|refine Zo Hh Za Fh ?_)
  exact Zf
 ·cases e
theorem Z0c {args:List W} {h h':Hq} {v:V} (e:Zvx args h=some (v,h')):Zb 187 args h v h':=by
 unfold Zvx at e
 split at e
 ·cases e
  refine fnG Hh Tryz.f187 ?_
  repeat (first|apply Z6|apply Yc|refine Zo Hh (EY Za (Zf4 Hh)) Z96 ?_)
  exact Zf
 ·cases e
theorem X3 {args:List W} {h h':Hq} {v:V} (e:Z5g args h=some (v,h')):Zb 112 args h v h':=by
 unfold Z5g at e
 split at e
 ·rename_i q
  cases e
  refine fnG Hh Tryz.f112 ?_
  repeat (first|apply Z6|apply Yc|refine Zo Hh (EY Za (Z0c Hh)) Fh ?_)
  exact Zf
 ·cases e
theorem Bp {args:List W} {h h':Hq} {v:V} (e:Zpj args h=some (v,h')):Zb 113 args h v h':=by
 unfold Zpj at e
 split at e
 ·rename_i s
  split at e
  ·rename_i heq
   obtain⟨b,e⟩:=Zv.1 e
   simp only[aQ,Bool.not_eq_true'] at b
   obtain⟨b1,rfl⟩:=b
   obtain rfl:=bQ b1
   cases e
   refine Zu.tidy ⟨Tryz.f113,Tryz.func113,kR,by decide⟩ fun tidy=>?_
   have l1:=tidy _ _ heq
   refine fnG Hh Tryz.f113 ?_
   have Jf:=@heq
   repeat (first|apply Z6|refine Zo Hh Za Zg6 ?_)
   exact Zf
  ·cases e
 ·cases e
end
section
variable (Hh:Hearts K Tryz.prog)
include Hh
set_option maxHeartbeats 4000000 in
theorem Z47 {args:List W} {h h':Hq} {v:V} (e:Z46 args h=some (v,h')):Zb 50 args h v h':=by
 unfold Z46 at e
 split at e
 ·rename_i d a0 b0 c0 e0 md q
  obtain⟨a,ha,e⟩:=Zk e
  obtain⟨b,hb,e⟩:=Zk e
  obtain⟨c,hc,e⟩:=Zk e
  obtain⟨j,hj,e⟩:=Zk e
  obtain⟨D,hd,e⟩:=Zk e
  obtain⟨hd,n0,n1⟩:=Oo hd
  obtain⟨f,e⟩:=Zv.1 e
  simp only[aQ,decide_eq_true_eq] at f
  obtain⟨⟨⟨⟨⟨fb,nn⟩,m1⟩,m3⟩,q1⟩,q2⟩:=f
  have nn:=lQ nn
  have F:=Z5 fb
  obtain⟨g1,g2,g3,g4,g5,g6,g7,g8,g9,g10,g11⟩:=F
  cases e
  rw[Yb ha,Yb hb,Yb hc,Yb hj]
  refine Zu.tidy ⟨Tryz.f50,Tryz.func50,kR,by decide⟩ fun tidy=>?_
  have l1:=tidy _ _ hd
  have h3:md=1\/md=2\/md=3:=oM
  rcases h3 with rfl|rfl|rfl
  ·
   refine fnG Hh Tryz.f50 ?_
   have Jf:=Yy @hd @fb
   repeat (first|apply Z6|apply Og|apply Yt|apply Yc|refine Goes.Zh Za7 ?_|refine Zo Hh (EY (EY (EY (EY (EY (EY (EY (EY Za (Bn Hh)) (Gh Hh)) (Fy Hh)) (Xv Hh)) (Xx Hh)) (Xw Hh)) (X3 Hh)) (Bp Hh)) Za7 ?_|refine F7 Hh (EY (EY (EY (EY (EY (EY (EY (EY Za (Bn Hh)) (Gh Hh)) (Fy Hh)) (Xv Hh)) (Xx Hh)) (Xw Hh)) (X3 Hh)) (Bp Hh)) Zh3 ?_)
   simp (maxSteps:=9^6) +decide (disch:=first|exact dZ|fail) only [go_sem,Zn,Zi,simprocAttr,Qn,Jt,gdL]<;>rfl
  ·
   refine fnG Hh Tryz.f50 ?_
   have Jf:=Yy @hd @fb
   repeat (first|apply Z6|apply Og|apply Yt|apply Yc|refine Goes.Zh Za7 ?_|refine Zo Hh (EY (EY (EY (EY (EY (EY (EY (EY Za (Bn Hh)) (Gh Hh)) (Fy Hh)) (Xv Hh)) (Xx Hh)) (Xw Hh)) (X3 Hh)) (Bp Hh)) Za7 ?_|refine F7 Hh (EY (EY (EY (EY (EY (EY (EY (EY Za (Bn Hh)) (Gh Hh)) (Fy Hh)) (Xv Hh)) (Xx Hh)) (Xw Hh)) (X3 Hh)) (Bp Hh)) Zh3 ?_)
   simp (maxSteps:=9^6) +decide (disch:=first|exact dZ|fail) only [go_sem,Zn,Zi,simprocAttr,Qn,Jt,gdL]<;>rfl
  ·
   refine fnG Hh Tryz.f50 ?_
   have Jf:=Yy @hd @fb
   repeat (first|apply Z6|apply Og|apply Yt|apply Yc|refine Goes.Zh Za7 ?_|refine Zo Hh (EY (EY (EY (EY (EY (EY (EY (EY Za (Bn Hh)) (Gh Hh)) (Fy Hh)) (Xv Hh)) (Xx Hh)) (Xw Hh)) (X3 Hh)) (Bp Hh)) Za7 ?_|refine F7 Hh (EY (EY (EY (EY (EY (EY (EY (EY Za (Bn Hh)) (Gh Hh)) (Fy Hh)) (Xv Hh)) (Xx Hh)) (Xw Hh)) (X3 Hh)) (Bp Hh)) Zh3 ?_)
   simp (maxSteps:=9^6) +decide (disch:=first|exact dZ|fail) only [go_sem,Zn,Zi,simprocAttr,Qn,Jt,gdL]<;>rfl
 ·cases e
end
attribute [go_sem] Z46
theorem rs191:Tryz.f191.results.toList=[.tmp 4]:=rfl
theorem rs122:Tryz.f122.results.toList=[.tmp 4]:=rfl
theorem rs253:Tryz.f253.results.toList=[.tmp 4]:=rfl
theorem rs192:Tryz.f192.results.toList=[.tmp 2]:=rfl
theorem rs193:Tryz.f193.results.toList=[.tmp 2]:=rfl
theorem rs293:Tryz.f293.results.toList=[.tmp 2]:=rfl
theorem rs129:Tryz.f129.results.toList=[.tmp 2]:=rfl
theorem rs133:Tryz.f133.results.toList=[.tmp 2]:=rfl
theorem rs254:Tryz.f254.results.toList=[.tmp 2]:=rfl
theorem rs123:Tryz.f123.results.toList=[.tmp 6,.tmp 7]:=rfl
attribute [go_sem] rs191 rs122 rs253 rs192 rs193 rs293 rs129 rs133 rs254 rs123
def Zvp:Kn1:=fun args h=>match args with
 | [.c .snil]=>some (.tup [],h)
 | _=>none
def Yb9:Kn1:=fun args h=>match args with
 | [.c (.ptr r 0),.c (.int .u32 _)]=>(Sq h r).bind fun m=>Y5 (Gg h m) (some (.w (.c .snil),h))
 | _=>none
def Zf8:Kn1:=fun args h=>match args with
 | [.c (.ptr t 0)]=>(Oe h t).bind fun X=>(Sq h X.rv).bind fun m=>Y5 (Gg h m) (some (.w (.c .snil),h))
 | _=>none
def Zu2:Kn1:=fun args h=>match args with
 | [.c (.map m)]=>some (.w (.c (.fn 327 [] [some (h.next,0)])),h.new (.row 1 [[.map m]] false))
 | _=>none
def Zu4:Kn1:=fun args h=>match args with
 | [.c (.map m)]=>some (.w (.c (.fn 203 [] [some (h.next,0)])),h.new (.row 1 [[.map m]] false))
 | _=>none
def Zu3:Kn1:=fun args h=>match args with
 | [.c (.map m)]=>some (.w (.c (.fn 207 [] [some (h.next,0)])),h.new (.row 1 [[.map m]] false))
 | _=>none
def Zpl:Kn1:=fun args h=>match args with
 | [.c (.fn g [] [some (a,0)])]=>Y5 (K.keys.contains g) (match h.get a with
  | some (.row sz [[.map n]] _)=>Y5 (Nat.beq sz 1) ((getM h n).bind fun l=>match Ep (Uq l) with
   | some []=>some (.w (.c .snil),h)
   | some (k :: ks)=>Y5 (Nat.ble (k :: ks).length 1000000) (some (.w (.c (.slice h.next 0 (k :: ks).length 1)),h.new (.row 1 ((k :: ks).map fun i=>[.int .i64 i]) false)))
   | none=>none)
  | _=>none)
 | _=>none
def Z4y:Kn1:=fun args h=>match args with
 | [.c (.map m)]=>Y5 (Gg h m) (some (.w (.c .snil),h))
 | _=>none
def Rl (a b:Int):Option Int:=bif decide (0<a)&&decide (a<=2048)&&decide (0<=b)&&decide (b<=2048) then some (a+(a+30 - 1) / 30+(b+60 - 1) / 60+1) else none
theorem Mk {a b n:Int} (e:Rl a b=some n):0<a/\a<=2048/\0<=b/\b<=2048/\n=a+(a+30 - 1) / 30+(b+60 - 1) / 60+1:=by
 unfold Rl at e
 cases q:(decide (0<a)&&decide (a<=2048)&&decide (0<=b)&&decide (b<=2048)) with
 | false=>rw[q] at e; cases e
 | true =>
  rw[q] at e
  cases e
  simp only[aQ,decide_eq_true_eq] at q
  exact⟨q.1.1.1,q.1.1.2,q.1.2,q.2,rfl⟩
def Z43:Kn1:=fun args h=>match args with
 | [.c (.int .i64 a),.c (.int .i64 n)]=>Y5 (decide (0<=a)&&decide (a<=4096)&&decide (1<=n)&&decide (n<=4096)) (some (.w (.c (.int .i64 ((a+n - 1) / n))),h))
 | _=>none
def Z49:Kn1:=fun args h=>match args with
 | [.c (.int .i64 a),.c (.int .i64 b)]=>(Rl a b).bind fun n=>some (.w (.c (.int .i64 n)),h)
 | _=>none
def Zo9:Kn1:=fun args h=>match args with
 | [.c (.map m)]=>match h.get m with
  | some (.map es)=>some (.w (.c (.map h.next)),h.new (.map es))
  | _=>none
 | _=>none
def Zpb:Kn1:=fun args h=>match args with
 | [.c (.map m)]=>match h.get m with
  | some (.map es)=>some (.w (.c (.map h.next)),h.new (.map es))
  | _=>none
 | _=>none
attribute [go_sem] Zvp Yb9 Zf8 Zu2 Zu4 Zu3 Zpl Z4y Z43 Z49 Zo9 Zpb
theorem Yaz:K.keys.contains 327=true:=kR
theorem Ya1:K.keys.contains 203=true:=kR
theorem Ya0:K.keys.contains 207=true:=kR
theorem Z7b:Y3 K 22 (.c .snil)=true:=kR
theorem Ybv:Ep (Uq [])=some []:=rfl
theorem Z6q:Zaf []=some []:=rfl
attribute [go_sem] Yaz Ya1 Ya0 Z7b Ybv Z6q
theorem Zsz (E:Task->Option Out) (ts:Zx) (h:Hq) (t:TypeId) (x:Operand):Uh K E ts h (.range t x)=(match El K t with|some _=>Zd3 h (Z4 K ts x)|none=>none):=rfl
theorem Zxy (E:Task->Option Out) (ts:Zx) (h:Hq) (x:Operand):Uh K E ts h (.next x false)=Zfl h (Zfe h (Z4 K ts x)):=rfl
attribute [go_sem] Zsz Zxy Zd3 Zfl Zfe
def x00:Kn:=fun _ _ _=>none
theorem Zo7:Zcj K Tryz.prog x00:=fun _ _ _ _ _ e=>by cases e
section
variable (Hh:Hearts K Tryz.prog)
include Hh
theorem Zm6 {args:List W} {h h':Hq} {v:V} (e:Zvp args h=some (v,h')):Zb 202 args h v h':=by
 unfold Zvp at e
 split at e
 ·cases e
  exact Zu.closed fits Hh Zo7 gl (n:=1000) kR rfl rfl h
 ·cases e
theorem Z44 {args:List W} {h h':Hq} {v:V} (e:Z43 args h=some (v,h')):Zb 191 args h v h':=by
 unfold Z43 at e
 split at e
 ·obtain⟨b,e⟩:=Zv.1 e
  simp only[aQ,decide_eq_true_eq] at b
  obtain⟨⟨⟨b1,b2⟩,b3⟩,b4⟩:=b
  cases e
  rename_i a n
  obtain⟨x,rfl⟩:=Int.eq_ofNat_of_zero_le b1
  obtain⟨m,rfl⟩:=Int.eq_ofNat_of_zero_le (show 0<=n by omega)
  have q:=Lp (a:=x+m - 1) (b:=m) oM oM
  rw[show ((x+m - 1:Nat):Int)=(x:Int)+m - 1 by omega] at q
  have q2:(((x+m - 1) / m:Nat):Int)=((x:Int)+m - 1) / m:=by
   rw[Int.natCast_ediv,show ((x+m - 1:Nat):Int)=(x:Int)+m - 1 by omega]
  rw[q2] at q
  refine fnG Hh Tryz.f191 ?_
  have Jf:=@q
  repeat (first|apply Z6|apply Yc|refine Zo Hh Za Zm ?_)
  exact Zf
 ·cases e
theorem Zks {args:List W} {h h':Hq} {v:V} (e:Z49 args h=some (v,h')):Zb 122 args h v h':=by
 unfold Z49 at e
 split at e
 ·obtain⟨n,hn,e⟩:=Zk e
  obtain⟨a0,a1,b0,b1,rfl⟩:=Mk hn
  cases e
  rename_i a b
  have d1:decide (a > 2048)=false:=decide_eq_false oM
  have d2:decide (b > 2048)=false:=decide_eq_false oM
  have d3:decide (a<0)=false:=decide_eq_false oM
  have d4:decide (b<0)=false:=decide_eq_false oM
  have d5:(a == 0)=false:=D7 oM
  refine fnG Hh Tryz.f122 ?_
  have Jf:=G6 @d1 @d2 @d3 @d4 @d5
  iterate 4 (first|refine Zo Hh Za Zm ?_|apply gS)
  refine Goes.ops2 fits Hh Za (by
   iterate 22 (refine Zcp Zm ?_)
   exact Zco) ?_
  iterate 3 (first|refine Goes.Zh Zm ?_|apply gS)
  refine Goes.ops2 fits Hh (EY Za (Z44 Hh)) (by
   iterate 9 (refine Zcp Zm ?_)
   exact Zco) ?_
  apply Yc
  exact Zf
 ·cases e
theorem Zj2 {f:FuncId} {args:List W} {h h':Hq} {v:V} (e:Ew K E0 f args h=some (.val v h')):Zb f args h v h':=by
 have T:=Ml (P:=Tryz.prog) fits Hh Za (Zbc fits Za)
 exact T.call f args h v h' e
theorem Ti {args:List W} {h h':Hq} {v:V} (e:Zpl args h=some (v,h')):Zb 128 args h v h':=by
 refine Zj2 Hh ?_
 have e1:Ew K E0 128 args h=Ny K h args:=kR
 rw[e1]
 unfold Zpl at e
 split at e
 ·rename_i g a
  obtain⟨b,e⟩:=Zv.1 e
  split at e
  ·rename_i n ro hg
   obtain⟨b1,e⟩:=Zv.1 e
   obtain rfl:=bQ b1
   obtain⟨l,hl,e⟩:=Zk e
   have hl:=getM_some hl
   have r1:read1 1 [[C.map n]] 0=some (.map n):=rfl
   simp only[Ny,b,cond_true,hg,r1,Zek,hl]
   split at e
   ·rename_i hk
    cases e
    rw[hk]
    rfl
   ·rename_i k ks hk
    obtain⟨b2,e⟩:=Zv.1 e
    cases e
    rw[hk]
    show (bif Nat.ble (k :: ks).length 1000000 then _ else none)=_
    rw[b2]
    rfl
   ·cases e
  ·cases e
 ·cases e
theorem Zke {args:List W} {h h':Hq} {v:V} (e:Zo9 args h=some (v,h')):Zb 259 args h v h':=by
 unfold Zo9 at e
 split at e
 ·split at e
  ·rename_i es he
   cases e
   refine Zj2 Hh ?_
   have e1:∀ args,Ew K E0 259 args h=Nb h args:=fun args=>kR
   rw[e1]
   simp only[Nb,he]
  ·cases e
 ·cases e
theorem Zkh {args:List W} {h h':Hq} {v:V} (e:Zpb args h=some (v,h')):Zb 260 args h v h':=by
 unfold Zpb at e
 split at e
 ·split at e
  ·rename_i es he
   cases e
   refine Zj2 Hh ?_
   have e1:∀ args,Ew K E0 260 args h=Nb h args:=fun args=>kR
   rw[e1]
   simp only[Nb,he]
  ·cases e
 ·cases e
theorem Zmz {args:List W} {h h':Hq} {v:V} (e:Zu2 args h=some (v,h')):Zb 293 args h v h':=by
 unfold Zu2 at e
 split at e
 ·cases e
  refine fnG Hh Tryz.f293 ?_
  repeat (first|apply Z6|apply Yc|refine Zo Hh Za Fh ?_)
  exact Zf
 ·cases e
theorem Zm1 {args:List W} {h h':Hq} {v:V} (e:Zu4 args h=some (v,h')):Zb 129 args h v h':=by
 unfold Zu4 at e
 split at e
 ·cases e
  refine fnG Hh Tryz.f129 ?_
  repeat (first|apply Z6|apply Yc|refine Zo Hh Za Fh ?_)
  exact Zf
 ·cases e
theorem Zm0 {args:List W} {h h':Hq} {v:V} (e:Zu3 args h=some (v,h')):Zb 133 args h v h':=by
 unfold Zu3 at e
 split at e
 ·cases e
  refine fnG Hh Tryz.f133 ?_
  repeat (first|apply Z6|apply Yc|refine Zo Hh Za Fh ?_)
  exact Zf
 ·cases e
theorem Zhr {args:List W} {h h':Hq} {v:V} (e:Yb9 args h=some (v,h')):Zb 253 args h v h':=by
 unfold Yb9 at e
 split at e
 ·rename_i r q
  obtain⟨m,hr,e⟩:=Zk e
  have hr:=Ga hr
  obtain⟨b,e⟩:=Zv.1 e
  have hm:=Jg b
  cases e
  refine Zu.tidy ⟨Tryz.f253,Tryz.func253,kR,by decide⟩ fun tidy=>?_
  have l1:=tidy _ _ hr
  have l2:=tidy _ _ hm
  refine Dx rfl ?_
  refine Yk Hh Tryz.f253 ?_
  repeat (first|apply Z6|apply Og|apply Ea|apply Yt|apply Bv|apply Yc|((first|apply Goes.Zh|apply Goes.ops2 fits Hh (EY (EY Za (Zm5 Hh)) (Zm6 Hh))); · simp (maxSteps:=9^6) +decide (disch:=first|exact dZ|fail) only [go_sem,Zn,Zi,simprocAttr,hr,hm,read1,Zd3,Zfl,Zfe]<;>rfl))
  exact⟨_,_,Zf,rfl,fun j hj=>by exact Ym⟩
 ·cases e
theorem Zeu {args:List W} {h h':Hq} {v:V} (e:Zf8 args h=some (v,h')):Zb 192 args h v h':=by
 unfold Zf8 at e
 split at e
 ·rename_i t
  obtain⟨X,ht,e⟩:=Zk e
  have ht:=Yr ht
  obtain⟨m,hr,e⟩:=Zk e
  have hr:=Ga hr
  obtain⟨b,e⟩:=Zv.1 e
  have hm:=Jg b
  cases e
  refine fnG Hh Tryz.f192 ?_
  have Jf:=Ja @ht @hr @hm
  repeat (first|apply Z6|apply Yt|apply Yc|refine Goes.Zh Ye ?_|refine Zo Hh (EY (EY Za (Be Hh)) (Zhr Hh)) Ye ?_|refine F7 Hh (EY (EY Za (Be Hh)) (Zhr Hh)) Z02 ?_)
  exact Zf
 ·cases e
theorem Z4z {args:List W} {h h':Hq} {v:V} (e:Z4y args h=some (v,h')):Zb 254 args h v h':=by
 unfold Z4y at e
 split at e
 ·rename_i m
  obtain⟨b,e⟩:=Zv.1 e
  have hm:=Jg b
  cases e
  refine Zu.tidy ⟨Tryz.f254,Tryz.func254,kR,by decide⟩ fun tidy=>?_
  have l2:=tidy _ _ hm
  refine Dx rfl ?_
  refine Yk Hh Tryz.f254 ?_
  have Jf:=@hm
  repeat (first|apply Z6|apply Yc|refine Zo Hh (EY (EY Za (Zmz Hh)) (Ti Hh)) Ye ?_)
  exact⟨_,_,Zf,rfl,fun j hj=>by exact Ym⟩
 ·cases e
end
theorem rs198:Tryz.f198.results.toList=[.cell 4 306]:=rfl
theorem rs125:Tryz.f125.results.toList=[.tmp 6]:=rfl
theorem rs55:Tryz.f55.results.toList=[.tmp 6]:=rfl
attribute [go_sem] rs198 rs125 rs55
def Zaa (h:Hq):Hq:=((((((h.new (.row 4 [[.mnil,.mnil,.mnil,.pnil]] false)).new (.map [])).new (.row 1 [[.map (h.next+1)]] false)).new (.map [])).new (.map [])).new (.map [])).put h.next (.row 4 [[.map (h.next+1+1+1),.map (h.next+1+1+1+1),.map (h.next+1+1+1+1+1),.ptr (h.next+1+1) 0]] false)
def Znk (h:Hq) (t:Nat) (X:Tx) (c r:Int):Hq :=
 (Zaa ((((((h.put t (.row 13 [txL { X with op:=true }] false)).put t (.row 13 [txL { X with op:=true,cr:=c }] false)).put t (.row 13 [txL { X with op:=true,cr:=c,rk:=r }] false)).new (.map [])).put t (.row 13 [txL { X with op:=true,cr:=c,rk:=r,to:=.map h.next }] false)))).put t (.row 13 [txL { X with op:=true,cr:=c,rk:=r,to:=.map h.next,b1:=.map (h.next+1+1+1+1),b2:=.map (h.next+1+1+1+1+1),b3:=.map (h.next+1+1+1+1+1+1),b4:=.ptr (h.next+1+1+1) 0 }] false)
def Uv (h:Hq) (s:Nat) (S:Stt):Hq:=((((h.new (.map [])).put s (.row 8 [stL { S with dt:=h.next }] false)).new (.map [])).put s (.row 8 [stL { S with dt:=h.next,gv:=h.next+1 }] false)).put s (.row 8 [stL { S with dt:=h.next,gv:=h.next+1,kn:=false }] false)
def Zpi:Kn1:=fun args h=>match args with
 | [.c (.ptr s 0),.c (.int .i64 c),.c (.int .i64 r)]=>(Gn h s).bind fun S=>(Oe h S.tx).bind fun X=>(Dz h S.gd).bind fun G=>(Sq h X.rv).bind fun m=>(Rl c r).bind fun n=>Y5 (decide (n<=(G.jr:Int) - 1)&&!X.op&&decide (X.sq<=2147483648)&&Gg h m&&Gg h X.ch&&Gg h X.od&&Gg h X.fr) (some (.w (.c (.int .i64 0)),Znk (Uv h s S) S.tx X c r))
 | _=>none
attribute [go_sem] Zpi
theorem Zdx:Y3 K 22 (.c .snil)=true:=kR
attribute [go_sem] Zdx
section
variable (Hh:Hearts K Tryz.prog)
include Hh
end
section
variable (Hh:Hearts K Tryz.prog)
include Hh
end
theorem rs83:Tryz.f83.results.toList=[.cell 4 87,.tmp 5]:=rfl
theorem rs34:Tryz.f34.results.toList=[.cell 4 87,.tmp 5]:=rfl
attribute [go_sem] rs83 rs34
theorem Zeo {c:Nat} {z:Int} {h h':Hq} {v:V} (e:Qj [.c (.ptr c 0),.c (.int .i64 z)] h=some (v,h')):∃ X D l,h.get c=some (.row 3 [ckL X] false)/\h.get X.d=some (.row 6 [dkL D] false)/\0<D.n/\D.n<=2048/\0<=z/\z<(D.n:Int)/\h.get X.m=some (.map (Uq l)) /\
    ((∃ y,Je z l=some y/\y.length=257/\y.all C.flat=true/\v=.tup [.g (y.take 256),.c (.int .i64 0)]/\h'=h) \/
     (Je z l=none/\Bg l=true/\∃ x L ro,h.get D.q=some (.row 256 L ro)/\L[z.toNat]? = some x/\x.length=256/\x.all C.flat=true/\v=.tup [.g x,.c (.int .i64 0)]/\h'=h.put X.m (.map (Uq (Dn z (x++[.bool false]) l))))):=by
  unfold Qj at e
  obtain⟨X,hc,e⟩:=Zk e
  have hc:=Sn hc
  obtain⟨D,hd,e⟩:=Zk e
  obtain⟨hd,n0,n1⟩:=Oo hd
  obtain⟨b,e⟩:=Zv.1 e
  simp only[aQ,decide_eq_true_eq] at b
  obtain⟨z0,z1⟩:=b
  obtain⟨l,hm,e⟩:=Zk e
  have hm:=getM_some hm
  refine⟨X,D,l,hc,hd,n0,n1,z0,z1,hm,?_⟩
  split at e
  · rename_i y hl
    obtain⟨b,e⟩:=Zv.1 e
    rw[aQ] at b
    cases e
    exact .inl ⟨y,hl,bQ b.1,b.2,rfl,rfl⟩
  · rename_i hl
    obtain⟨fl,e⟩:=Zv.1 e
    obtain⟨x,hx,e⟩:=Zk e
    obtain⟨L,ro,hq,hL,xl,xf⟩:=Zfc hx
    cases e
    exact .inr ⟨hl,fl,x,L,ro,hq,hL,xl,xf,rfl,rfl⟩
def Tg:Kn1:=fun args h=>match args with
  | [.c (.ptr s 0),.c (.int .i64 z)]=>(Gn h s).bind fun S=>(getM h S.dt).bind fun ld=>match Je z ld with
    | some y=>Y5 (Nat.beq y.length 257&&y.all C.flat) (some (.tup [.g (y.drop 1),.c (.int .i64 0)],h))
    | none=>(Oe h S.tx).bind fun X=>(getM h X.ch).bind fun lc=>match Je z lc with
      | some y=>Y5 (Nat.beq y.length 256&&y.all C.flat) (some (.tup [.g y,.c (.int .i64 0)],h))
      | none=>(Dz h S.gd).bind fun G=>Y5 (Zj8 h G.li) (Qj [.c (.ptr G.ca 0),.c (.int .i64 z)] h)
  | _=>none
def Zgv:Kn1:=fun args h=>match args with
  | [.c (.ptr s 0),.c (.int .i64 z)]=>(Gn h s).bind fun S=>(Dz h S.gd).bind fun G=>Y5 (decide (z<9223372036854775808)) (bif Bb G.gr G.sz G.ino G.jr z then Tg [.c (.ptr s 0),.c (.int .i64 z)] h else some (.tup [.g zB,.c (.int .i64 2)],h))
  | _=>none
attribute [go_sem] Tg Zgv
theorem Zer {s:Nat} {z:Int} {h h':Hq} {v:V} (e:Tg [.c (.ptr s 0),.c (.int .i64 z)] h=some (v,h')):∃ S ld,h.get s=some (.row 8 [stL S] false)/\h.get S.dt=some (.map (Uq ld)) /\
    ((∃ y,Je z ld=some y/\y.length=257/\y.all C.flat=true/\v=.tup [.g (y.drop 1),.c (.int .i64 0)]/\h'=h) \/
     (Je z ld=none/\∃ X lc,h.get S.tx=some (.row 13 [txL X] false)/\h.get X.ch=some (.map (Uq lc)) /\
      ((∃ y,Je z lc=some y/\y.length=256/\y.all C.flat=true/\v=.tup [.g y,.c (.int .i64 0)]/\h'=h) \/
       (Je z lc=none/\∃ G,h.get S.gd=some (.row 9 [gdL G] false)/\Yw G.gr G.sz G.ino G.jr=true/\Zj8 h G.li=true/\Qj [.c (.ptr G.ca 0),.c (.int .i64 z)] h=some (v,h'))))):=by
  unfold Tg at e
  obtain⟨S,hs,e⟩:=Zk e
  have hs:=Y2 hs
  obtain⟨ld,hd,e⟩:=Zk e
  have hd:=getM_some hd
  refine⟨S,ld,hs,hd,?_⟩
  split at e
  · rename_i y hl
    obtain⟨b,e⟩:=Zv.1 e
    rw[aQ] at b
    cases e
    exact .inl ⟨y,hl,bQ b.1,b.2,rfl,rfl⟩
  · rename_i hl
    obtain⟨X,ht,e⟩:=Zk e
    have ht:=Yr ht
    obtain⟨lc,hc,e⟩:=Zk e
    have hc:=getM_some hc
    refine .inr ⟨hl,X,lc,ht,hc,?_⟩
    split at e
    · rename_i y hl
      obtain⟨b,e⟩:=Zv.1 e
      rw[aQ] at b
      cases e
      exact .inl ⟨y,hl,bQ b.1,b.2,rfl,rfl⟩
    · rename_i hl
      obtain⟨G,hg,e⟩:=Zk e
      obtain⟨hg,fb⟩:=Jj hg
      obtain⟨b,e⟩:=Zv.1 e
      exact .inr ⟨hl,G,hg,fb,b,e⟩
theorem Zl0 {l:List C} (n:Nat) (h:l.all C.flat=true):(l.drop n).all C.flat=true:=List.all_eq_true.2 fun x hx=>List.all_eq_true.1 h x (List.mem_of_mem_drop hx)
theorem Zl1 {l:List C} (n:Nat) (h:l.all C.flat=true):(l.take n).all C.flat=true:=List.all_eq_true.2 fun x hx=>List.all_eq_true.1 h x (List.mem_of_mem_take hx)
theorem Lh {l:List C} {z:Int} (h:l.all C.flat=true):V.flat (.tup [.g l,.c (.int .i64 z)])=true:=by
  show (l.all C.flat&&true)=true
  rw[h]; rfl
section
variable (Hh:Hearts K Tryz.prog)
include Hh
set_option maxHeartbeats 2000000 in
theorem Xz {args:List W} {h h':Hq} {v:V} (e:Tg args h=some (v,h')):Zb 83 args h v h':=by
  have e0:=e
  unfold Tg at e
  split at e
  · rename_i s z
    clear e
    refine Zu.tidy ⟨Tryz.f83,Tryz.func83,kR,by decide⟩ fun tidy=>?_
    obtain⟨S,ld,hs,hd,⟨y,hl,yl,yf,rfl,rfl⟩|⟨hl,X,lc,ht,hc,⟨y,hl2,yl,yf,rfl,rfl⟩|⟨hl2,G,hg,fb,vl,e⟩⟩⟩:=Zer e0
    · have l1:=tidy _ _ hs
      have l2:=tidy _ _ hd
      have rr:Zn 257 [y] 1 256=some (y.drop 1):=by
        rw[Zud oM,List.take_of_length_le (by rw[List.length_drop]; omega)]
      have tl:(y.drop 1).length=256:=by rw[List.length_drop]; omega
      obtain⟨v,h2,c,rfl,hk⟩:∃ v h2,Zb 83 [.c (.ptr s 0),.c (.int .i64 z)] h' v h2/\v=.tup [.g (y.drop 1),.c (.int .i64 0)]/\∀ m,m<h'.next->h2.get m=h'.get m:=by
        refine Yk Hh Tryz.f83 ?_
        have Jf:=J6 @hs @hd @hl @rr
        repeat (first|apply Z6|apply Yt|apply Yc|refine Goes.Zh Jh ?_|refine Zo Hh (EY (EY (EY (EY Za (Zes Hh)) (Zeq Hh)) (Zep Hh)) (Zbv Hh)) Jh ?_)
        exact⟨_,_,(by have Jf:=J6 @hs @hd @hl @rr; exact Zr),rfl,fun m hm=>by exact Np⟩
      exact c.quiet (Lh (Zl0 1 yf)) hk
    · have l1:=tidy _ _ hs
      have l2:=tidy _ _ hd
      have l3:=tidy _ _ ht
      have l4:=tidy _ _ hc
      obtain⟨v,h2,c,rfl,hk⟩:∃ v h2,Zb 83 [.c (.ptr s 0),.c (.int .i64 z)] h' v h2/\v=.tup [.g y,.c (.int .i64 0)]/\∀ m,m<h'.next->h2.get m=h'.get m:=by
        refine Yk Hh Tryz.f83 ?_
        have Jf:=Lc @hs @hd @hl @ht @hc @hl2 @yf
        repeat (first|apply Z6|apply Yt|apply Yc|refine Goes.Zh Jh ?_|refine Zo Hh (EY (EY (EY (EY Za (Zes Hh)) (Zeq Hh)) (Zep Hh)) (Zbv Hh)) Jh ?_)
        exact⟨_,_,(by have Jf:=Ja @hs @hd @hl; exact Zr),rfl,fun m hm=>by exact Np⟩
      exact c.quiet (Lh yf) hk
    · obtain⟨k1,k2,k3,k4,k5,k6,ro,hli⟩:=Qh vl
      obtain⟨Y,D,l,hck,hdk,n0,n1,z0,z1,hm,⟨y,hl3,yl,yf,rfl,rfl⟩|⟨hl3,fl,x,L,ro,hq,hL,xl,xf,rfl,rfl⟩⟩:=Zeo e
      · have l1:=tidy _ _ hs
        have l2:=tidy _ _ hd
        have l3:=tidy _ _ ht
        have l4:=tidy _ _ hc
        have l5:=tidy _ _ hg
        have l6:=tidy _ _ hck
        have l7:=tidy _ _ hdk
        have l8:=tidy _ _ hm
        have l9:=tidy _ _ hli
        have tl:(y.take 256).length=256:=by rw[List.length_take]; omega
        obtain⟨v,h2,c,rfl,hk⟩:∃ v h2,Zb 83 [.c (.ptr s 0),.c (.int .i64 z)] h' v h2/\v=.tup [.g (y.take 256),.c (.int .i64 0)]/\∀ m,m<h'.next->h2.get m=h'.get m:=by
          refine Yk Hh Tryz.f83 ?_
          repeat (first|apply Z6|apply Yt|apply Yc|((first|apply Goes.Zh|apply Goes.ops2 fits Hh (EY (EY (EY (EY Za (Zes Hh)) (Zeq Hh)) (Zep Hh)) (Zbv Hh))); · simp (maxSteps:=9^6) +decide (disch:=first|exact dZ|fail) only [go_sem,Zi,simprocAttr,hs,hd,hl,ht,hc,hl2,hg,gdL,fb,hli,hck,hdk,hm,hl3,yf,zB,read1]<;>rfl))
          exact⟨_,_,Yn,rfl,fun m hm=>by exact Np⟩
        exact c.quiet (Lh (Zl1 256 yf)) hk
      · have l1:=tidy _ _ hs
        have l2:=tidy _ _ hd
        have l3:=tidy _ _ ht
        have l4:=tidy _ _ hc
        have l5:=tidy _ _ hg
        have l6:=tidy _ _ hck
        have l7:=tidy _ _ hdk
        have l8:=tidy _ _ hm
        have l9:=tidy _ _ hli
        have l10:=tidy _ _ hq
        obtain⟨v,h2,c,rfl,hk⟩:∃ v h2,Zb 83 [.c (.ptr s 0),.c (.int .i64 z)] h v h2/\v=.tup [.g x,.c (.int .i64 0)]/\∀ m,m<h.next->h2.get m=(h.put Y.m (.map (Uq (Dn z (x++[.bool false]) l)))).get m:=by
          refine Yk Hh Tryz.f83 ?_
          repeat (first|apply Z6|apply Yt|apply Yc|((first|apply Goes.Zh|apply Goes.ops2 fits Hh (EY (EY (EY (EY Za (Zes Hh)) (Zeq Hh)) (Zep Hh)) (Zbv Hh))); · simp (maxSteps:=9^6) +decide (disch:=first|exact dZ|fail) only [go_sem,Zi,simprocAttr,hs,hd,hl,ht,hc,hl2,hg,gdL,fb,hli,hck,hdk,hm,hl3,hq,hL,xl,xf,fl,zB,read1]<;>rfl))
          exact⟨_,_,Yn,rfl,fun m hm=>by exact Np⟩
        refine c.settle ((Vt.refl tidy).put l8 (Na (Bu ?_ fl))) (Zky.flat (Lh xf)) hk
        rw[List.all_append,xf]; rfl
  · cases e
end
theorem Z8i:∀ {S S':Stt},stL S=stL S'->S=S'
 | ⟨a,b,c,d,e,f⟩,⟨a',b',c',d',e',f'⟩,h=>by
  have h':[C.ptr a 0,.ptr b 0,.pnil,.map c,.map d,e,.bool f,.bool false]=[C.ptr a' 0,.ptr b' 0,.pnil,.map c',.map d',e',.bool f',.bool false]:=h
  cases h'
  rfl
theorem Z6y:∀ {G G':Gd},gdL G=gdL G'->G=G'
 | ⟨a,b,c,d,e,f,g,i,j⟩,⟨a',b',c',d',e',f',g',i',j'⟩,h=>by
  have h':[C.int .i64 (a:Int),.int .i64 (b:Int),.int .i64 (c:Int),.int .i64 (d:Int),.int .u8 e,.ptr f 0,.ptr g 0,.ptr i 0,.ptr j 0]=[C.int .i64 (a':Int),.int .i64 (b':Int),.int .i64 (c':Int),.int .i64 (d':Int),.int .u8 e',.ptr f' 0,.ptr g' 0,.ptr i' 0,.ptr j' 0]:=h
  simp only[List.cons.injEq,C.int.injEq,C.ptr.injEq,and_true,true_and,Int.ofNat_inj] at h'
  obtain⟨rfl,rfl,rfl,rfl,rfl,rfl,rfl,rfl,rfl⟩:=h'
  rfl
section
variable (Hh:Hearts K Tryz.prog)
include Hh
set_option maxHeartbeats 4000000 in
theorem Dp {args:List W} {h h':Hq} {v:V} (e:Zgv args h=some (v,h')):Zb 34 args h v h':=by
 unfold Zgv at e
 split at e
 ·rename_i s z
  obtain⟨S0,hs0,e⟩:=Zk e
  obtain⟨G0,hg0,e⟩:=Zk e
  obtain⟨bz,e⟩:=Zv.1 e
  have z1:=of_decide_eq_true bz
  have hs:=Y2 hs0
  obtain⟨hg,fb⟩:=Jj hg0
  refine Zu.tidy ⟨Tryz.f34,Tryz.func34,kR,by decide⟩ fun tidy=>?_
  have l1:=tidy _ _ hs
  have l5:=tidy _ _ hg
  rcases hb:Bb G0.gr G0.sz G0.ino G0.jr z with _|_
  ·rw[hb] at e
   cases e
   obtain⟨v,h2,c,rfl,hk⟩:∃ v h2,Zb 34 [.c (.ptr s 0),.c (.int .i64 z)] h v h2/\v=.tup [.g zB,.c (.int .i64 2)]/\∀ m,m<h.next->h2.get m=h.get m:=by
    refine Yk Hh Tryz.f34 ?_
    repeat (first|apply Z6|apply Yt|apply Yc|((first|apply Goes.Zh|apply Goes.ops2 fits Hh (EY (EY (EY Za (O7 Hh)) (R5 Hh)) (Xz Hh))); · simp (maxSteps:=9^6) +decide (disch:=first|exact dZ|fail) only [go_sem,Zi,simprocAttr,hs,hg,gdL,fb,hb,zB,read1]<;>rfl))
    exact⟨_,_,(by simp (maxSteps:=9^6) +decide (disch:=first|exact dZ|fail) only [go_sem,Zi,simprocAttr,zB]<;>rfl),rfl,fun m hm=>by exact Np⟩
   exact c.quiet (Lh Z89) hk
  ·rw[hb] at e
   have e:Tg [.c (.ptr s 0),.c (.int .i64 z)] h=some (v,h'):=e
   obtain⟨S,ld,hs2,hd,q⟩:=Zer e
   have eS:S0=S:=by
    rw[hs] at hs2
    have e1:stL S0=stL S:=by simpa using hs2
    exact Z8i e1
   subst eS
   have l2:=tidy _ _ hd
   obtain⟨y,hl,yl,yf,rfl,rfl⟩|⟨hl,X,lc,ht,hc,⟨y,hl2,yl,yf,rfl,rfl⟩|⟨hl2,G,hg2,fb2,vl,e⟩⟩:=q
   ·have tl:(y.drop 1).length=256:=by rw[List.length_drop]; omega
    obtain⟨v,h2,c,rfl,hk⟩:∃ v h2,Zb 34 [.c (.ptr s 0),.c (.int .i64 z)] h' v h2/\v=.tup [.g (y.drop 1),.c (.int .i64 0)]/\∀ m,m<h'.next->h2.get m=h'.get m:=by
     refine Yk Hh Tryz.f34 ?_
     repeat (first|apply Z6|apply Yt|apply Yc|((first|apply Goes.Zh|apply Goes.ops2 fits Hh (EY (EY (EY Za (O7 Hh)) (R5 Hh)) (Xz Hh))); · simp (maxSteps:=9^6) +decide (disch:=first|exact dZ|fail) only [go_sem,Zi,simprocAttr,hs,hg,gdL,fb,hb,hd,hl,yl,yf,read1]<;>rfl))
     exact⟨_,_,Yn,rfl,fun m hm=>by exact Np⟩
    exact c.quiet (Lh (Zl0 1 yf)) hk
   ·have l3:=tidy _ _ ht
    have l4:=tidy _ _ hc
    obtain⟨v,h2,c,rfl,hk⟩:∃ v h2,Zb 34 [.c (.ptr s 0),.c (.int .i64 z)] h' v h2/\v=.tup [.g y,.c (.int .i64 0)]/\∀ m,m<h'.next->h2.get m=h'.get m:=by
     refine Yk Hh Tryz.f34 ?_
     repeat (first|apply Z6|apply Yt|apply Yc|((first|apply Goes.Zh|apply Goes.ops2 fits Hh (EY (EY (EY Za (O7 Hh)) (R5 Hh)) (Xz Hh))); · simp (maxSteps:=9^6) +decide (disch:=first|exact dZ|fail) only [go_sem,Zi,simprocAttr,hs,hg,gdL,fb,hb,hd,hl,ht,hc,hl2,yl,yf,read1]<;>rfl))
     exact⟨_,_,Yn,rfl,fun m hm=>by exact Np⟩
    exact c.quiet (Lh yf) hk
   ·have eG:G0=G:=by
     rw[hg] at hg2
     have e1:gdL G0=gdL G:=by simpa using hg2
     exact Z6y e1
    subst eG
    obtain⟨k1,k2,k3,k4,k5,k6,ro,hli⟩:=Qh vl
    obtain⟨Y,D,l,hck,hdk,n0,n1,z0,z2,hm,⟨y,hl3,yl,yf,rfl,rfl⟩|⟨hl3,fl,x,L,ro,hq,hL,xl,xf,rfl,rfl⟩⟩:=Zeo e
    ·have l3:=tidy _ _ ht
     have l4:=tidy _ _ hc
     have l6:=tidy _ _ hck
     have l7:=tidy _ _ hdk
     have l8:=tidy _ _ hm
     have l9:=tidy _ _ hli
     have l10:=tidy _ _ hg2
     have tl:(y.take 256).length=256:=by rw[List.length_take]; omega
     obtain⟨v,h2,c,rfl,hk⟩:∃ v h2,Zb 34 [.c (.ptr s 0),.c (.int .i64 z)] h' v h2/\v=.tup [.g (y.take 256),.c (.int .i64 0)]/\∀ m,m<h'.next->h2.get m=h'.get m:=by
      refine Yk Hh Tryz.f34 ?_
      repeat (first|apply Z6|apply Yt|apply Yc|((first|apply Goes.Zh|apply Goes.ops2 fits Hh (EY (EY (EY Za (O7 Hh)) (R5 Hh)) (Xz Hh))); · simp (maxSteps:=9^6) +decide (disch:=first|exact dZ|fail) only [go_sem,Zi,simprocAttr,hs,hg2,gdL,fb,fb2,hb,hd,hl,ht,hc,hl2,hli,hck,hdk,hm,hl3,yl,yf,zB,read1]<;>rfl))
      exact⟨_,_,Yn,rfl,fun m hm=>by exact Np⟩
     exact c.quiet (Lh (Zl1 256 yf)) hk
    ·have l3:=tidy _ _ ht
     have l4:=tidy _ _ hc
     have l6:=tidy _ _ hck
     have l7:=tidy _ _ hdk
     have l8:=tidy _ _ hm
     have l9:=tidy _ _ hli
     have l10:=tidy _ _ hg2
     have l11:=tidy _ _ hq
     obtain⟨v,h2,c,rfl,hk⟩:∃ v h2,Zb 34 [.c (.ptr s 0),.c (.int .i64 z)] h v h2/\v=.tup [.g x,.c (.int .i64 0)]/\∀ m,m<h.next->h2.get m=(h.put Y.m (.map (Uq (Dn z (x++[.bool false]) l)))).get m:=by
      refine Yk Hh Tryz.f34 ?_
      repeat (first|apply Z6|apply Yt|apply Yc|((first|apply Goes.Zh|apply Goes.ops2 fits Hh (EY (EY (EY Za (O7 Hh)) (R5 Hh)) (Xz Hh))); · simp (maxSteps:=9^6) +decide (disch:=first|exact dZ|fail) only [go_sem,Zi,simprocAttr,hs,hg2,gdL,fb,fb2,hb,hd,hl,ht,hc,hl2,hli,hck,hdk,hm,hl3,hq,hL,xl,xf,fl,zB,read1]<;>rfl))
      exact⟨_,_,Yn,rfl,fun m hm=>by exact Np⟩
     refine c.settle ((Vt.refl tidy).put l8 (Na (Bu ?_ fl))) (Zky.flat (Lh xf)) hk
     rw[List.all_append,xf]; rfl
 ·cases e
end
theorem rs77:Tryz.f77.results.toList=[.tmp 6]:=rfl
attribute [go_sem] rs77
theorem Zsq {t:Nat} {z:Int} {x:List C} {h h':Hq} {v:V} (e:Zku [.c (.ptr t 0),.c (.int .i64 z),.g x] h=some (v,h')):∃ X to lt lc lf m,h.get t=some (.row 13 [txL X] false)/\X.to=.map to/\h.get to=some (.map (Uq lt))/\h.get X.ch=some (.map (Uq lc))/\h.get X.fr=some (.map (Uq lf))/\h.get X.rv=some (.row 1 [[.map m]] false)/\h.get m=some (.map []) /\
  X.op=true/\0<=z/\(match Je z lt with|none=>decide ((lt.length:Int)<X.cr)|some []=>true|some (_ :: _)=>false)=true/\x.length=256/\x.all C.flat=true/\Bg lt=true/\Bg lc=true/\Bg lf=true /\
  Nat.beq to X.ch=false/\Nat.beq to X.fr=false/\Nat.beq X.ch X.fr=false/\Nat.beq to m=false/\Nat.beq X.ch m=false/\Nat.beq X.fr m=false/\Nat.beq to t=false/\Nat.beq X.ch t=false/\Nat.beq X.fr t=false/\Nat.beq to X.rv=false/\Nat.beq X.ch X.rv=false/\Nat.beq X.fr X.rv=false /\
  v=.w (.c (.int .i64 0))/\h'=((h.put to (.map (Uq (Dn z [] lt)))).put X.ch (.map (Uq (Dn z x lc)))).put X.fr (.map (Uq (Zic z lf))):=by
 unfold Zku at e
 obtain⟨X,ht,e⟩:=Zk e
 have ht:=Yr ht
 obtain⟨to,hto,e⟩:=Zk e
 have hto:=Zr9 hto
 obtain⟨lt,hlt,e⟩:=Zk e
 have hlt:=getM_some hlt
 obtain⟨lc,hlc,e⟩:=Zk e
 have hlc:=getM_some hlc
 obtain⟨lf,hlf,e⟩:=Zk e
 have hlf:=getM_some hlf
 obtain⟨m,hr,e⟩:=Zk e
 have hr:=Ga hr
 obtain⟨b,e⟩:=Zv.1 e
 cases e
 simp only[aQ,Bool.not_eq_true'] at b
 obtain⟨⟨⟨⟨⟨⟨⟨⟨⟨⟨⟨⟨⟨⟨⟨⟨⟨⟨⟨⟨bo,z0⟩,bm⟩,bc⟩,bx⟩,xf⟩,f1⟩,f2⟩,f3⟩,c1⟩,c2⟩,c3⟩,c4⟩,c5⟩,c6⟩,c7⟩,c8⟩,c9⟩,c10⟩,c11⟩,c12⟩:=b
 exact⟨X,to,lt,lc,lf,m,ht,hto,hlt,hlc,hlf,hr,Jg bm,bo,of_decide_eq_true z0,bc,bQ bx,xf,f1,f2,f3,c1,c2,c3,c4,c5,c6,c7,c8,c9,c10,c11,c12,rfl,rfl⟩
def Zvh (s:Nat) (S:Stt) (z:Int) (x:List C) (h:Hq):Option (V × Hq):=(getM h S.dt).bind fun _=>(getM h S.gv).bind fun _=>Y5 (C.flat S.bs) (Zku [.c (.ptr S.tx 0),.c (.int .i64 z),.g x] (h.put s (.row 8 [stL { S with kn:=false }] false)))
def Zsm:Kn1:=fun args h=>match args with
 | [.c (.ptr s 0),.c (.int .i64 z),.g x]=>(Gn h s).bind fun S=>(Oe h S.tx).bind fun X=>(Dz h S.gd).bind fun G=>Y5 (X.op&&decide (z<9223372036854775808)&&Bb G.gr G.sz G.ino G.jr z) (Zvh s S z x h)
 | _=>none
theorem Ya5 {b:Nat} {S:Stt} (l2:S.gd<b) (l3:S.tx<b) (l4:S.dt<b) (l5:S.gv<b) (fb:C.flat S.bs=true) (k:Bool):Zxo b (.row 8 [stL { S with kn:=k }] false):=by
 refine Zw0 fun τ hτ=>?_
 show [[C.ptr (τ S.gd) 0,.ptr (τ S.tx) 0,.pnil,.map (τ S.dt),.map (τ S.gv),S.bs.ren τ,.bool k,.bool false]]=_
 rw[hτ _ l2,hτ _ l3,hτ _ l4,hτ _ l5,C.Y7 fb]
 rfl
section
variable (Hh:Hearts K Tryz.prog)
include Hh
set_option maxHeartbeats 4000000 in
theorem L8 {args:List W} {h h':Hq} {v:V} (e:Zsm args h=some (v,h')):Zb 77 args h v h':=by
 unfold Zsm at e
 split at e
 ·rename_i s z x
  obtain⟨S,hs,e⟩:=Zk e
  have hs:=Y2 hs
  obtain⟨X,ht,e⟩:=Zk e
  have ht:=Yr ht
  obtain⟨G,hg,e⟩:=Zk e
  obtain⟨hg,fb⟩:=Jj hg
  obtain⟨b,e⟩:=Zv.1 e
  simp only[aQ,decide_eq_true_eq] at b
  obtain⟨⟨bo,z1⟩,bou⟩:=b
  refine Zu.tidy ⟨Tryz.f77,Tryz.func77,kR,by decide⟩ fun tidy=>?_
  unfold Zvh at e
  obtain⟨ldt,hdt,e⟩:=Zk e
  have hdt:=getM_some hdt
  obtain⟨lgv,hgv,e⟩:=Zk e
  have hgv:=getM_some hgv
  obtain⟨fbs,e⟩:=Zv.1 e
  have l1:=tidy _ _ hs
  have k2:=tidy _ _ hg
  have k3:=tidy _ _ ht
  have k4:=tidy _ _ hdt
  have k5:=tidy _ _ hgv
  have hput:∀ m,m≠s->(h.put s (.row 8 [stL { S with kn:=false }] false)).get m=h.get m:=fun m hm=>Ze hm
  have nt:S.tx≠s:=fun e1=>by rw[e1,hs] at ht; cases ht
  obtain⟨X',to,lt,lc,lf,m,ht',hto,hlt,hlc,hlf,hr,hm,bo',z0,bc,xl,xf,f1,f2,f3,c1,c2,c3,c4,c5,c6,c7,c8,c9,c10,c11,c12,rfl,rfl⟩:=Zsq e
  rw[hput _ nt] at ht'
  have n0:to≠s:=fun e1=>by rw[e1,Zy] at hlt; cases hlt
  have nc:X'.ch≠s:=fun e1=>by rw[e1,Zy] at hlc; cases hlc
  have nf:X'.fr≠s:=fun e1=>by rw[e1,Zy] at hlf; cases hlf
  have nr:X'.rv≠s:=fun e1=>by rw[e1,Zy] at hr; cases hr
  have nm:m≠s:=fun e1=>by rw[e1,Zy] at hm; cases hm
  rw[hput _ n0] at hlt
  rw[hput _ nc] at hlc
  rw[hput _ nf] at hlf
  rw[hput _ nr] at hr
  rw[hput _ nm] at hm
  have k6:=tidy _ _ hlt
  have k7:=tidy _ _ hlc
  have k8:=tidy _ _ hlf
  have k9:=tidy _ _ hr
  have k10:=tidy _ _ hm
  have n1:=Un c1
  have n2:=Un c2
  have n3:=Un c3
  have n4:=Un c4
  have n5:=Un c5
  have n6:=Un c6
  have n7:=Un c7
  have n8:=Un c8
  have n9:=Un c9
  have n10:=Un c10
  have n11:=Un c11
  have n12:=Un c12
  have md3:True:=trivial
  have z0d:decide (0<=z)=true:=decide_eq_true z0
  obtain⟨v,h',c,rfl,hk⟩:∃ v h',Zb 77 [.c (.ptr s 0),.c (.int .i64 z),.g x] h v h'/\v=.w (.c (.int .i64 0))/\∀ j,j<h.next->h'.get j=((((h.put s (.row 8 [stL { S with kn:=false }] false)).put to (.map (Uq (Dn z [] lt)))).put X'.ch (.map (Uq (Dn z x lc)))).put X'.fr (.map (Uq (Zic z lf)))).get j:=by
   rcases hl:Je z lt with _|y
   ·
    rw[hl] at bc
    have bc:decide ((lt.length:Int)<X'.cr)=true:=bc
    refine Yk Hh Tryz.f77 ?_
    repeat (first|apply Z6|apply Yt|apply Yc|((first|apply Goes.Zh|apply Goes.ops2 fits Hh (EY (EY Za (Vj Hh)) (Zet Hh))); · simp (maxSteps:=9^6) +decide (disch:=first|exact dZ|fail) only [go_sem,Zi,simprocAttr,hs,ht',hg,gdL,fb,bou,bo',md3,z0d,hto,hlt,hlc,hlf,hr,hm,hl,bc,xl,xf,f1,f2,f3,c1,c2,c3,c4,c5,c6,c7,c8,c9,c10,c11,c12,read1]<;>rfl)|(apply Goes.drawn2 fits Hh (EY (EY Za (Vj Hh)) (Zet Hh)) kR; · simp (maxSteps:=9^6) +decide (disch:=first|exact dZ|fail) only [go_sem,Zi,simprocAttr,drG,hs,ht',hg,gdL,fb,bou,bo',md3,z0d,hto,hlt,hlc,hlf,hr,hm,hl,bc,xl,xf,f1,f2,f3,c1,c2,c3,c4,c5,c6,c7,c8,c9,c10,c11,c12,read1]<;>rfl))
    exact⟨_,_,Yn,rfl,fun j hj=>by exact Np⟩
   ·
    rw[hl] at bc
    rcases y with _|⟨y0,y⟩
    ·
     refine Yk Hh Tryz.f77 ?_
     repeat (first|apply Z6|apply Yt|apply Yc|((first|apply Goes.Zh|apply Goes.ops2 fits Hh (EY (EY Za (Vj Hh)) (Zet Hh))); · simp (maxSteps:=9^6) +decide (disch:=first|exact dZ|fail) only [go_sem,Zi,simprocAttr,hs,ht',hg,gdL,fb,bou,bo',md3,z0d,hto,hlt,hlc,hlf,hr,hm,hl,bc,xl,xf,f1,f2,f3,c1,c2,c3,c4,c5,c6,c7,c8,c9,c10,c11,c12,read1]<;>rfl)|(apply Goes.drawn2 fits Hh (EY (EY Za (Vj Hh)) (Zet Hh)) kR; · simp (maxSteps:=9^6) +decide (disch:=first|exact dZ|fail) only [go_sem,Zi,simprocAttr,drG,hs,ht',hg,gdL,fb,bou,bo',md3,z0d,hto,hlt,hlc,hlf,hr,hm,hl,bc,xl,xf,f1,f2,f3,c1,c2,c3,c4,c5,c6,c7,c8,c9,c10,c11,c12,read1]<;>rfl))
     exact⟨_,_,Yn,rfl,fun j hj=>by exact Np⟩
    ·cases bc
  exact c.settle (((((Vt.refl tidy).put l1 (Ya5 k2 k3 k4 k5 fbs false)).put k6 (Na (Bu rfl f1))).put k7 (Na (Bu xf f2))).put k8 (Na (Zis f3))) (Zky.flat rfl) hk
 ·cases e
end
end
end Go.Proofs.YtmanipmhebgdbaaGreatDoor
