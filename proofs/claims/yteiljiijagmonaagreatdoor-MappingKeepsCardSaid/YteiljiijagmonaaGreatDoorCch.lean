/- The disk's functions, of any disk whose power is on. -/
import Derived.Test.YteiljiijagmonaaGreatDoorSli
set_option maxRecDepth 100000
set_option maxHeartbeats 4000000
set_option linter.unusedSimpArgs false
set_option linter.unusedVariables false
set_option linter.unusedSectionVars false
namespace Go.Proofs.YteiljiijagmonaaGreatDoor
open Go.Ev
noncomputable section
theorem ty4:K.types.get 4=some ti4:=kR
theorem sz4:ti4.size=1:=by rfl
theorem ag4:ti4.agg=false:=by rfl
theorem de4:ti4.desc=.bool:=by rfl
theorem ze4:ti4.zero=(.c (.bool false)):=by rfl
theorem by4:ti4.bytes=1:=by rfl
theorem ty5:K.types.get 5=some ti5:=kR
theorem sz5:ti5.size=1:=by rfl
theorem ag5:ti5.agg=false:=by rfl
theorem de5:ti5.desc=(.int .u8):=by rfl
theorem ze5:ti5.zero=(.c (.int .u8 0)):=by rfl
theorem by5:ti5.bytes=1:=by rfl
theorem ke5 (k:IntKind) (n:Int):Fe K 20 5 (.c (.int k n))=true:=kR
theorem ty25:K.types.get 25=some ti25:=kR
theorem sz25:ti25.size=1:=by rfl
theorem ag25:ti25.agg=false:=by rfl
theorem de25:ti25.desc=(.pointer 188):=by rfl
theorem ze25:ti25.zero=(.c (.pnil)):=by rfl
theorem by25:ti25.bytes=8:=by rfl
theorem ty31:K.types.get 31=some ti31:=kR
theorem sz31:ti31.size=1:=by rfl
theorem ag31:ti31.agg=false:=by rfl
theorem de31:ti31.desc=(.int .i64):=by rfl
theorem ze31:ti31.zero=(.c (.int .i64 0)):=by rfl
theorem by31:ti31.bytes=8:=by rfl
theorem ke31 (k:IntKind) (n:Int):Fe K 20 31 (.c (.int k n))=true:=kR
theorem ty66:K.types.get 66=some ti66:=kR
theorem sz66:ti66.size=256:=by rfl
theorem ag66:ti66.agg=true:=by rfl
theorem de66:ti66.desc=(.array 256 5):=by rfl
theorem ze66:ti66.zero=(.g ((List.replicate 256 (.int .u8 0)))):=by rfl
theorem by66:ti66.bytes=256:=by rfl
theorem eq66 (a b:List C):eqT K 20 66 (.g a) (.g b)=(bif true&&Nat.beq a.length 256&&Nat.beq b.length 256 then Y4 a b else none):=kR
theorem ty115:K.types.get 115=some ti115:=kR
theorem sz115:ti115.size=1:=by rfl
theorem ag115:ti115.agg=false:=by rfl
theorem de115:ti115.desc=(.slice 66):=by rfl
theorem ze115:ti115.zero=(.c (.snil)):=by rfl
theorem by115:ti115.bytes=24:=by rfl
theorem el115:Y7 K 115=some ti66:=kR
theorem ty186:K.types.get 186=some ti186:=kR
theorem sz186:ti186.size=1:=by rfl
theorem ag186:ti186.agg=false:=by rfl
theorem de186:ti186.desc=(.slice 370):=by rfl
theorem ze186:ti186.zero=(.c (.snil)):=by rfl
theorem by186:ti186.bytes=24:=by rfl
theorem el186:Y7 K 186=some ti370:=kR
theorem ty188:K.types.get 188=some ti188:=kR
theorem sz188:ti188.size=6:=by rfl
theorem ag188:ti188.agg=true:=by rfl
theorem fo188_0:Zm K 188 0=some (0,ti115):=kR
theorem fo188_1:Zm K 188 1=some (1,ti115):=kR
theorem fo188_2:Zm K 188 2=some (2,ti186):=kR
theorem fo188_3:Zm K 188 3=some (3,ti3):=kR
theorem fo188_4:Zm K 188 4=some (4,ti4):=kR
theorem fo188_5:Zm K 188 5=some (5,ti3):=kR
theorem bu188 (ps:List (Nat × W)):Yg K 188 (some ps)=gW (Z8 K 188 ps ti188.zero.cells):=kR
theorem ze188:ti188.zero=(.g ([.snil,.snil,.snil,.int .i64 0,.bool false,.int .i64 0])):=by rfl
theorem by188:ti188.bytes=96:=by rfl
theorem ty370:K.types.get 370=some ti370:=kR
theorem sz370:ti370.size=257:=by rfl
theorem ag370:ti370.agg=true:=by rfl
theorem fo370_0:Zm K 370 0=some (0,ti3):=kR
theorem fo370_1:Zm K 370 1=some (1,ti66):=kR
theorem bu370 (ps:List (Nat × W)):Yg K 370 (some ps)=gW (Z8 K 370 ps ti370.zero.cells):=kR
theorem ze370:ti370.zero=(.g (List.replicate 1 (.int .i64 0)++List.replicate 256 (.int .u8 0))):=by rfl
theorem by370:ti370.bytes=264:=by rfl
attribute [go_sem] ty3 sz3 ag3 de3 ze3 by3 ke3 ty4 sz4 ag4 de4 ze4 by4 ty5 sz5 ag5 de5 ze5 by5 ke5 ty25 sz25 ag25 de25 ze25 by25 ty31 sz31 ag31 de31 ze31 by31 ke31 ty66 sz66 ag66 de66 ze66 by66 eq66 ty115 sz115 ag115 de115 ze115 by115 el115 ty186 sz186 ag186 de186 ze186 by186 el186 ty188 sz188 ag188 fo188_0 fo188_1 fo188_2 fo188_3 fo188_4 fo188_5 bu188 ze188 by188 ty370 sz370 ag370 fo370_0 fo370_1 bu370 ze370 by370
theorem rs155:Tryz.f155.results.toList=[.tmp 2]:=rfl
theorem rs101:Tryz.f101.results.toList=[.tmp 2]:=rfl
theorem rs268:Tryz.f268.results.toList=[.tmp 2]:=rfl
theorem rs243:Tryz.f243.results.toList=[.tmp 2]:=rfl
theorem rs212:Tryz.f212.results.toList=[.tmp 4]:=rfl
theorem rs169:Tryz.f169.results.toList=[.cell 4 66,.tmp 5]:=rfl
attribute [go_sem] rs155 rs101 rs268 rs243 rs212 rs169
structure Dk where
 p:Nat
 q:Nat
 n:Nat
 wt:C
 ac:Int
 lf:Int
def dkL (D:Dk):List C:=[.slice D.p 0 D.n 256,.slice D.q 0 D.n 256,D.wt,.int .i64 D.ac,.bool false,.int .i64 D.lf]
attribute [go_sem] dkL
def Nz (h:Hq) (d:Nat):Option Dk:=match h.get d with
 | some (.row sz [[.slice p o1 n s1,.slice q o2 n2 s2,wt,.int .i64 ac,.bool st,.int .i64 lf]] ro)=>Yt (Nat.beq sz 6&&Nat.beq o1 0&&Nat.beq s1 256&&Nat.beq o2 0&&Nat.beq s2 256&&Nat.beq n2 n&&Nat.blt 0 n&&Nat.ble n 2048&&!st&&!ro) (some ⟨p,q,n,wt,ac,lf⟩)
 | _=>none
theorem Uy {h:Hq} {d:Nat} {D:Dk} (e:Nz h d=some D):h.get d=some (.row 6 [dkL D] false)/\0<D.n/\D.n<=2048:=by
 unfold Nz at e
 split at e
 ·rename_i heq
  obtain⟨b,e⟩:=Zq.1 e
  cases e
  simp only[aQ,Bool.not_eq_true'] at b
  obtain⟨⟨⟨⟨⟨⟨⟨⟨⟨b1,b2⟩,b3⟩,b4⟩,b5⟩,b6⟩,b7⟩,b8⟩,rfl⟩,rfl⟩:=b
  obtain rfl:=bQ b1
  obtain rfl:=bQ b2
  obtain rfl:=bQ b3
  obtain rfl:=bQ b4
  obtain rfl:=bQ b5
  obtain rfl:=bQ b6
  exact⟨heq,by simpa [Nat.blt_eq] using b7,lQ b8⟩
 ·cases e
theorem Zzr (p o n:Nat):Yx K 115 (.c (.slice p o n 256))=true:=kR
def Zzb (h:Hq) (q:Nat) (b:Nat):Option (List C):=match h.get q with
 | some (.row sz L _)=>Yt (Nat.beq sz 256) (L[b]?.bind fun x=>Yt (Nat.beq x.length 256&&x.all C.flat) (some x))
 | _=>none
theorem Zed {h:Hq} {q b:Nat} {x:List C} (e:Zzb h q b=some x):∃ L ro,h.get q=some (.row 256 L ro)/\L[b]? = some x/\x.length=256/\x.all C.flat=true:=by
 unfold Zzb at e
 split at e
 ·rename_i sz L ro heq
  obtain⟨b1,e⟩:=Zq.1 e
  obtain rfl:=bQ b1
  obtain⟨y,hy,e⟩:=Zj e
  obtain⟨b2,e⟩:=Zq.1 e
  cases e
  rw[aQ] at b2
  exact⟨L,ro,heq,hy,bQ b2.1,b2.2⟩
 ·cases e
def Zsq:Kn1:=fun args h=>match args with
 | [.c (.ptr d 0)]=>(Nz h d).bind fun _=>some (.w (.c (.bool true)),h)
 | _=>none
def Ziu:Kn1:=fun args h=>match args with
 | [.c (.ptr d 0)]=>(Nz h d).bind fun D=>some (.w (.c (.int .i64 (D.n:Int))),h)
 | _=>none
def Zso:Kn1:=fun args h=>match args with
 | [.c (.ptr d 0)]=>(Nz h d).bind fun _=>some (.w (.c (.bool false)),h)
 | _=>none
def Ziv:Kn1:=fun args h=>match args with
 | [.c (.ptr d 0)]=>(Nz h d).bind fun _=>some (.w (.c (.int .i64 0)),h)
 | _=>none
def Zca:Kn1:=fun args h=>match args with
 | [.c (.ptr d 0),.c (.int .i64 z)]=>(Nz h d).bind fun D=>Yt (decide (0<=z)&&decide (z<(D.n:Int))) (some (.w (.c (.int .i64 0)),h))
 | _=>none
def Zsr:Kn1:=fun args h=>match args with
 | [.c (.ptr d 0),.c (.int .i64 z)]=>(Nz h d).bind fun D=>Yt (decide (0<=z)&&decide (z<(D.n:Int))) ((Zzb h D.q z.toNat).bind fun x=>some (.tup [.g x,.c (.int .i64 0)],h))
 | _=>none
attribute [go_sem] Nz Zzb Zzr Zsq Ziu Zso Ziv Zca Zsr
section
variable (Hh:Hearts K Tryz.prog)
include Hh
theorem Zet {args:List W} {h h':Hq} {v:V} (e:Zsq args h=some (v,h')):Zi 155 args h v h':=by
 unfold Zsq at e
 split at e
 ·rename_i d
  obtain⟨D,hd,e⟩:=Zj e
  obtain⟨hd,n0,n1⟩:=Uy hd
  cases e
  refine fnG Hh Tryz.f155 ?_
  have Jf:=@hd
  repeat (first|apply Zu|apply Yc|refine Zr Hh Za Bi ?_)
  exact Zf
 ·cases e
theorem Bf {args:List W} {h h':Hq} {v:V} (e:Ziu args h=some (v,h')):Zi 101 args h v h':=by
 unfold Ziu at e
 split at e
 ·rename_i d
  obtain⟨D,hd,e⟩:=Zj e
  obtain⟨hd,n0,n1⟩:=Uy hd
  cases e
  refine fnG Hh Tryz.f101 ?_
  have Jf:=@hd
  repeat (first|apply Zu|apply Ye|apply Yc|refine Goes.Zl Bi ?_|refine Zr Hh (EY Za (Zet Hh)) Bi ?_)
  exact Zf
 ·cases e
theorem Zxe {args:List W} {h h':Hq} {v:V} (e:Zso args h=some (v,h')):Zi 268 args h v h':=by
 unfold Zso at e
 split at e
 ·rename_i d
  obtain⟨D,hd,e⟩:=Zj e
  obtain⟨hd,n0,n1⟩:=Uy hd
  cases e
  refine fnG Hh Tryz.f268 ?_
  have Jf:=@hd
  repeat (first|apply Zu|apply Yc|refine Zr Hh (EY Za (Zet Hh)) Z6 ?_)
  exact Zf
 ·cases e
theorem Zqk {args:List W} {h h':Hq} {v:V} (e:Ziv args h=some (v,h')):Zi 243 args h v h':=by
 unfold Ziv at e
 split at e
 ·rename_i d
  obtain⟨D,hd,e⟩:=Zj e
  obtain⟨hd,n0,n1⟩:=Uy hd
  cases e
  refine fnG Hh Tryz.f243 ?_
  have Jf:=@hd
  repeat (first|apply Zu|apply Jc|apply Ye|apply Yc|refine Goes.Zl Z6 ?_|refine Zr Hh (EY (EY Za (Zet Hh)) (Zxe Hh)) Z6 ?_)
  exact Zf
 ·cases e
theorem Zjs {args:List W} {h h':Hq} {v:V} (e:Zca args h=some (v,h')):Zi 212 args h v h':=by
 unfold Zca at e
 split at e
 ·rename_i d z
  obtain⟨D,hd,e⟩:=Zj e
  obtain⟨hd,n0,n1⟩:=Uy hd
  obtain⟨b,e⟩:=Zq.1 e
  simp only[aQ,decide_eq_true_eq] at b
  obtain⟨z0,z1⟩:=b
  cases e
  refine fnG Hh Tryz.f212 ?_
  have Jf:=@hd
  repeat (first|apply Zu|apply Ye|apply Yc|refine Goes.Zl Bi ?_|refine Zr Hh (EY Za (Zqk Hh)) Bi ?_)
  exact Zf
 ·cases e
theorem Za2 {args:List W} {h h':Hq} {v:V} (e:Zsr args h=some (v,h')):Zi 169 args h v h':=by
 unfold Zsr at e
 split at e
 ·rename_i d z
  obtain⟨D,hd,e⟩:=Zj e
  obtain⟨hd,n0,n1⟩:=Uy hd
  obtain⟨b,e⟩:=Zq.1 e
  simp only[aQ,decide_eq_true_eq] at b
  obtain⟨z0,z1⟩:=b
  obtain⟨b,rfl⟩:=Int.eq_ofNat_of_zero_le z0
  obtain⟨x,hx,e⟩:=Zj e
  rw[Int.toNat_natCast] at hx
  obtain⟨L,ro,hq,hL,xl,xf⟩:=Zed hx
  have rr:Zk 256 L (b * 256) 256=some x:=Zic oM hL xl
  cases e
  refine Zy.tidy ⟨Tryz.f169,Tryz.func169,kR,by decide⟩ fun tidy=>?_
  have ld:=tidy _ _ hd
  have lq:=tidy _ _ hq
  obtain⟨v,h',c,rfl,hk⟩:∃ v h',Zi 169 [.c (.ptr d 0),.c (.int .i64 (b:Int))] h v h'/\v=.tup [.g x,.c (.int .i64 0)]/\∀ m,m<h.next->h'.get m=h.get m:=by
   refine Y0 Hh Tryz.f169 ?_
   have Jf:=Um @hd @hq @rr @xl
   repeat (first|apply Zu|apply Ye|apply Yc|refine Goes.Zl Uq ?_|refine Zr Hh (EY Za (Zjs Hh)) Uq ?_)
   exact⟨_,_,(by have Jf:=Um @hd @hq @rr @xl; exact Z0),rfl,fun m hm=>by exact Jg⟩
  exact c.quiet (by show (x.all C.flat&&true)=true; rw[xf]; rfl) hk
 ·cases e
end
open Go.Ev
theorem ty80:K.types.get 80=some ti80:=kR
theorem sz80:ti80.size=1:=by rfl
theorem ag80:ti80.agg=false:=by rfl
theorem de80:ti80.desc=(.pointer 163):=by rfl
theorem ze80:ti80.zero=(.c (.pnil)):=by rfl
theorem by80:ti80.bytes=8:=by rfl
theorem ty143:K.types.get 143=some ti143:=kR
theorem sz143:ti143.size=1:=by rfl
theorem ag143:ti143.agg=false:=by rfl
theorem de143:ti143.desc=(.map 3 166):=by rfl
theorem ze143:ti143.zero=(.c (.mnil)):=by rfl
theorem by143:ti143.bytes=8:=by rfl
theorem mp143:Db K 143=some (3,166):=kR
theorem ty161:K.types.get 161=some ti161:=kR
theorem sz161:ti161.size=1:=by rfl
theorem ag161:ti161.agg=false:=by rfl
theorem de161:ti161.desc=(.map 3 165):=by rfl
theorem ze161:ti161.zero=(.c (.mnil)):=by rfl
theorem by161:ti161.bytes=8:=by rfl
theorem mp161:Db K 161=some (3,165):=kR
theorem ty163:K.types.get 163=some ti163:=kR
theorem sz163:ti163.size=3:=by rfl
theorem ag163:ti163.agg=true:=by rfl
theorem fo163_0:Zm K 163 0=some (0,ti25):=kR
theorem fo163_1:Zm K 163 1=some (1,ti161):=kR
theorem fo163_2:Zm K 163 2=some (2,ti143):=kR
theorem bu163 (ps:List (Nat × W)):Yg K 163 (some ps)=gW (Z8 K 163 ps ti163.zero.cells):=kR
theorem ze163:ti163.zero=(.g ([.pnil,.mnil,.mnil])):=by rfl
theorem by163:ti163.bytes=24:=by rfl
theorem ty165:K.types.get 165=some ti165:=kR
theorem sz165:ti165.size=257:=by rfl
theorem ag165:ti165.agg=true:=by rfl
theorem fo165_0:Zm K 165 0=some (0,ti66):=kR
theorem fo165_1:Zm K 165 1=some (256,ti4):=kR
theorem ze165:ti165.zero=(.g (List.replicate 256 (.int .u8 0)++List.replicate 1 (.bool false))):=by rfl
theorem by165:ti165.bytes=257:=by rfl
theorem ty166:K.types.get 166=some ti166:=kR
theorem sz166:ti166.size=0:=by rfl
theorem ag166:ti166.agg=true:=by rfl
theorem bu166 (ps:List (Nat × W)):Yg K 166 (some ps)=gW (Z8 K 166 ps ti166.zero.cells):=kR
theorem ze166:ti166.zero=(.g ([])):=by rfl
theorem by166:ti166.bytes=0:=by rfl
attribute [go_sem] ty80 sz80 ag80 de80 ze80 by80 ty143 sz143 ag143 de143 ze143 by143 mp143 ty161 sz161 ag161 de161 ze161 by161 mp161 ty163 sz163 ag163 fo163_0 fo163_1 fo163_2 bu163 ze163 by163 ty165 sz165 ag165 fo165_0 fo165_1 ze165 by165 ty166 sz166 ag166 bu166 ze166 by166
theorem rs146:Tryz.f146.results.toList=[.tmp 2]:=rfl
theorem rs83:Tryz.f83.results.toList=[.tmp 4]:=rfl
theorem rs122:Tryz.f122.results.toList=[.cell 4 66,.tmp 5]:=rfl
theorem rs41:Tryz.f41.results.toList=[.tmp 6]:=rfl
attribute [go_sem] rs146 rs83 rs122 rs41
structure Ck where
 d:Nat
 m:Nat
 pn:Nat
def ckL (X:Ck):List C:=[.ptr X.d 0,.map X.m,.map X.pn]
attribute [go_sem] ckL
def Zcy (h:Hq) (c:Nat):Option Ck:=match h.get c with
 | some (.row sz [[.ptr d o,.map m,.map pn]] ro)=>Yt (Nat.beq sz 3&&Nat.beq o 0&&!ro) (some ⟨d,m,pn⟩)
 | _=>none
theorem Fa {h:Hq} {c:Nat} {X:Ck} (e:Zcy h c=some X):h.get c=some (.row 3 [ckL X] false):=by
 unfold Zcy at e
 split at e
 ·rename_i heq
  obtain⟨b,e⟩:=Zq.1 e
  cases e
  simp only[aQ,Bool.not_eq_true'] at b
  obtain⟨⟨b1,b2⟩,rfl⟩:=b
  obtain rfl:=bQ b1
  obtain rfl:=bQ b2
  exact heq
 ·cases e
def Zsm:Kn1:=fun args h=>match args with
 | [.c (.ptr c 0)]=>(Zcy h c).bind fun _=>some (.w (.c (.bool true)),h)
 | _=>none
def Z07:Kn1:=fun args h=>match args with
 | [.c (.ptr c 0),.c (.int .i64 z)]=>(Zcy h c).bind fun X=>(Nz h X.d).bind fun D=>Yt (decide (0<=z)&&decide (z<(D.n:Int))) (some (.w (.c (.int .i64 0)),h))
 | _=>none
def Xw:Kn1:=fun args h=>match args with
 | [.c (.ptr c 0),.c (.int .i64 z)]=>(Zcy h c).bind fun X=>(Nz h X.d).bind fun D=>Yt (decide (0<=z)&&decide (z<(D.n:Int))) ((getM h X.m).bind fun l=>match Ym z l with
  | some y=>Yt (Nat.beq y.length 257&&y.all C.flat) (some (.tup [.g (y.take 256),.c (.int .i64 0)],h))
  | none=>Yt (Ou l) ((Zzb h D.q z.toNat).bind fun x=>some (.tup [.g x,.c (.int .i64 0)],h.put X.m (.map (Y5 (Ol z (x++[.bool false]) l))))))
 | _=>none
def Znh:Kn1:=fun args h=>match args with
 | [.c (.ptr c 0),.c (.int .i64 z),.g x]=>(Zcy h c).bind fun X=>(Nz h X.d).bind fun D=>Yt (decide (0<=z)&&decide (z<(D.n:Int))) ((getM h X.m).bind fun l=>Yt (Nat.beq x.length 256&&x.all C.flat&&Ou l) (some (.w (.c (.int .i64 0)),h.put X.m (.map (Y5 (Ol z (x++[.bool true]) l))))))
 | _=>none
attribute [go_sem] Zcy Zsm Z07 Xw Znh
theorem Z8t {x:List C} {b:Bool} (h:x.length<=256/\256<=x.length):Yg K 165 (some [(0,.g x),(1,.c (.bool b))])=some (.g (x++[.bool b])):=by
 have z:(ti165.zero).cells.drop 256=[.bool false]:=kR
 have zl:(ti165.zero).cells.length=257:=kR
 have bu:∀ ps,Yg K 165 (some ps)=gW (Z8 K 165 ps (ti165.zero).cells):=fun ps=>kR
 rw[bu]
 simp only[Z8,fo165_0,fo165_1]
 rw[show ti66.size=256 from rfl,Zox ⟨h.1,h.2,oM⟩,z]
 simp only
 rw[show ti4.size=1 from rfl,Zv2 ⟨h.1,h.2,by simp,by simp⟩]
 rfl
theorem Z59 {x:List C} (h:x.length<=256/\256<=x.length):Yg K 165 (some [(0,.g x)])=some (.g (x++[.bool false])):=by
 have z:(ti165.zero).cells.drop 256=[.bool false]:=kR
 have zl:(ti165.zero).cells.length=257:=kR
 have bu:∀ ps,Yg K 165 (some ps)=gW (Z8 K 165 ps (ti165.zero).cells):=fun ps=>kR
 rw[bu]
 simp only[Z8,fo165_0]
 rw[show ti66.size=256 from rfl,Zox ⟨h.1,h.2,oM⟩,z]
 rfl
attribute [go_sem] Z8t Z59
section
variable (Hh:Hearts K Tryz.prog)
include Hh
theorem Zxc {args:List W} {h h':Hq} {v:V} (e:Zsm args h=some (v,h')):Zi 146 args h v h':=by
 unfold Zsm at e
 split at e
 ·rename_i c
  obtain⟨X,hc,e⟩:=Zj e
  have hc:=Fa hc
  cases e
  refine fnG Hh Tryz.f146 ?_
  have Jf:=@hc
  repeat (first|apply Zu|apply Yc|refine Zr Hh Za Z6 ?_)
  exact Zf
 ·cases e
theorem Rj {args:List W} {h h':Hq} {v:V} (e:Z07 args h=some (v,h')):Zi 83 args h v h':=by
 unfold Z07 at e
 split at e
 ·rename_i c z
  obtain⟨X,hc,e⟩:=Zj e
  have hc:=Fa hc
  obtain⟨D,hd,e⟩:=Zj e
  obtain⟨hd,n0,n1⟩:=Uy hd
  obtain⟨b,e⟩:=Zq.1 e
  simp only[aQ,decide_eq_true_eq] at b
  obtain⟨z0,z1⟩:=b
  cases e
  refine fnG Hh Tryz.f83 ?_
  have Jf:=Jl @hc @hd
  repeat (first|apply Zu|apply Jc|apply Ye|apply Yc|refine Goes.Zl Z6 ?_|refine Zr Hh (EY (EY Za (Zxc Hh)) (Bf Hh)) Z6 ?_)
  exact Zf
 ·cases e
theorem Za1 {args:List W} {h h':Hq} {v:V} (e:Xw args h=some (v,h')):Zi 122 args h v h':=by
 unfold Xw at e
 split at e
 ·rename_i c z
  obtain⟨X,hc,e⟩:=Zj e
  have hc:=Fa hc
  obtain⟨D,hd,e⟩:=Zj e
  obtain⟨hd,n0,n1⟩:=Uy hd
  obtain⟨b,e⟩:=Zq.1 e
  simp only[aQ,decide_eq_true_eq] at b
  obtain⟨z0,z1⟩:=b
  obtain⟨l,hm,e⟩:=Zj e
  have hm:=getM_some hm
  refine Zy.tidy ⟨Tryz.f122,Tryz.func122,kR,by decide⟩ fun tidy=>?_
  have lc:=tidy _ _ hc
  have ld:=tidy _ _ hd
  have lm:=tidy _ _ hm
  split at e
  ·rename_i y hl
   obtain⟨b,e⟩:=Zq.1 e
   rw[aQ] at b
   have yl:=bQ b.1
   have yf:=b.2
   cases e
   have rr:Zk 257 [y] 0 256=some (y.take 256):=Zp1 oM
   have tl:(y.take 256).length=256:=by rw[List.length_take]; omega
   obtain⟨v,h',c,rfl,hk⟩:∃ v h',Zi 122 [.c (.ptr c 0),.c (.int .i64 z)] h v h'/\v=.tup [.g (y.take 256),.c (.int .i64 0)]/\∀ m,m<h.next->h'.get m=h.get m:=by
    refine Y0 Hh Tryz.f122 ?_
    have Jf:=Ej @hc @hd @hm @hl @rr
    repeat (first|apply Zu|apply Ye|apply Yc|refine Goes.Zl O3 ?_|refine Zr Hh (EY (EY Za (Rj Hh)) (Za2 Hh)) O3 ?_|refine G6 Hh (EY (EY Za (Rj Hh)) (Za2 Hh)) Zgh ?_)
    exact⟨_,_,(by have Jf:=Ej @hc @hd @hm @hl @rr; exact Z0),rfl,fun m hm=>by exact Le⟩
   refine c.quiet ?_ hk
   show ((y.take 256).all C.flat&&true)=true
   rw[Bool.and_true,List.all_eq_true]
   exact fun x hx=>List.all_eq_true.1 yf x (List.mem_of_mem_take hx)
  ·rename_i hl
   obtain⟨fl,e⟩:=Zq.1 e
   obtain⟨x,hx,e⟩:=Zj e
   obtain⟨b,rfl⟩:=Int.eq_ofNat_of_zero_le z0
   rw[Int.toNat_natCast] at hx
   obtain⟨L,ro,hq,hL,xl,xf⟩:=Zed hx
   have lq:=tidy _ _ hq
   cases e
   obtain⟨v,h',c,rfl,hk⟩:∃ v h',Zi 122 [.c (.ptr c 0),.c (.int .i64 (b:Int))] h v h'/\v=.tup [.g x,.c (.int .i64 0)]/\∀ m,m<h.next->h'.get m=(h.put X.m (.map (Y5 (Ol (b:Int) (x++[.bool false]) l)))).get m:=by
    refine Y0 Hh Tryz.f122 ?_
    have Jf:=Lg @hc @hd @hm @hl @hq @hL @xl @xf
    repeat (first|apply Zu|apply Ye|apply Yc|refine Goes.Zl O3 ?_|refine Zr Hh (EY (EY Za (Rj Hh)) (Za2 Hh)) O3 ?_|refine G6 Hh (EY (EY Za (Rj Hh)) (Za2 Hh)) Zgh ?_)
    exact⟨_,_,(by have Jf:=El @hc @hd @hm @hl @hq @hL @xl; exact Z0),rfl,fun m hm=>by exact Le⟩
   refine c.settle ((Ru.refl tidy).put lm (D7 (Og ?_ fl))) (Zgd.flat ?_) hk
   ·rw[List.all_append,xf]; rfl
   ·show (x.all C.flat&&true)=true; rw[xf]; rfl
 ·cases e
theorem Zir {args:List W} {h h':Hq} {v:V} (e:Znh args h=some (v,h')):Zi 41 args h v h':=by
 unfold Znh at e
 split at e
 ·rename_i c z x
  obtain⟨X,hc,e⟩:=Zj e
  have hc:=Fa hc
  obtain⟨D,hd,e⟩:=Zj e
  obtain⟨hd,n0,n1⟩:=Uy hd
  obtain⟨b,e⟩:=Zq.1 e
  simp only[aQ,decide_eq_true_eq] at b
  obtain⟨z0,z1⟩:=b
  obtain⟨l,hm,e⟩:=Zj e
  have hm:=getM_some hm
  obtain⟨b,e⟩:=Zq.1 e
  simp only[aQ] at b
  obtain⟨⟨b1,xf⟩,fl⟩:=b
  have xl:=bQ b1
  refine Zy.tidy ⟨Tryz.f41,Tryz.func41,kR,by decide⟩ fun tidy=>?_
  have lc:=tidy _ _ hc
  have ld:=tidy _ _ hd
  have lm:=tidy _ _ hm
  cases e
  obtain⟨v,h',c,rfl,hk⟩:∃ v h',Zi 41 [.c (.ptr c 0),.c (.int .i64 z),.g x] h v h'/\v=.w (.c (.int .i64 0))/\∀ m,m<h.next->h'.get m=(h.put X.m (.map (Y5 (Ol z (x++[.bool true]) l)))).get m:=by
   refine Y0 Hh Tryz.f41 ?_
   have Jf:=Um @hc @hd @hm @xl
   repeat (first|apply Zu|apply Ye|apply Yc|refine Goes.Zl Zfo ?_|refine Zr Hh (EY Za (Rj Hh)) Zfo ?_|refine G6 Hh (EY Za (Rj Hh)) Zyf ?_)
   exact⟨_,_,(by have Jf:=Ju @hc @hd @hm; exact Zn),rfl,fun m hm=>by exact Le⟩
  refine c.settle ((Ru.refl tidy).put lm (D7 (Og ?_ fl))) (Zgd.flat rfl) hk
  rw[List.all_append,xf]; rfl
 ·cases e
end
end
end Go.Proofs.YteiljiijagmonaaGreatDoor
