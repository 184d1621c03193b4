/- Pages of super: numbers put and got, the sum, noughts. -/
import Derived.Test.YteiljiijagmonaaGreatDoorPag
import Derived.Test.YteiljiijagmonaaGreatDoorHba
set_option maxRecDepth 100000
set_option maxHeartbeats 10000000
set_option linter.unusedSimpArgs false
set_option linter.unusedVariables false
set_option linter.unusedSectionVars false
namespace Go.Proofs.YteiljiijagmonaaGreatDoor
open Go.Ev
noncomputable section
theorem ty221:K.types.get 221=some ti221:=kR
theorem sz221:ti221.size=256:=by rfl
theorem ag221:ti221.agg=true:=by rfl
theorem fo221_0:Zm K 221 0=some (0,ti66):=kR
theorem bu221 (ps:List (Nat × W)):Yg K 221 (some ps)=gW (Z8 K 221 ps ti221.zero.cells):=kR
theorem ze221:ti221.zero=(.g ((List.replicate 256 (.int .u8 0)))):=by rfl
theorem by221:ti221.bytes=256:=by rfl
theorem ty350:K.types.get 350=some ti350:=kR
theorem sz350:ti350.size=1:=by rfl
theorem ag350:ti350.agg=false:=by rfl
theorem de350:ti350.desc=(.slice 141):=by rfl
theorem ze350:ti350.zero=(.c (.snil)):=by rfl
theorem by350:ti350.bytes=24:=by rfl
theorem el350:Y7 K 350=some ti141:=kR
attribute [go_sem] ty221 sz221 ag221 fo221_0 bu221 ze221 by221 ty350 sz350 ag350 de350 ze350 by350 el350
theorem rs233:Tryz.f233.results.toList=[]:=rfl
theorem rs113:Tryz.f113.results.toList=[.tmp 4]:=rfl
theorem rs265:Tryz.f265.results.toList=[]:=rfl
theorem rs157:Tryz.f157.results.toList=[.tmp 4]:=rfl
theorem rs158:Tryz.f158.results.toList=[.tmp 2]:=rfl
theorem rs234:Tryz.f234.results.toList=[]:=rfl
theorem rs110:Tryz.f110.results.toList=[.tmp 2]:=rfl
theorem rs111:Tryz.f111.results.toList=[.tmp 6]:=rfl
attribute [go_sem] rs233 rs113 rs265 rs157 rs158 rs234 rs110 rs111
def Z1m:Kn1:=fun args h=>match args with
 | [.c (.ptr p 0),.c (.int .i64 a),.c (.int .i64 v)]=>(U8 a).bind fun a=>(U8 v).bind fun v=>(F5 h p).bind fun x=>Yt (decide (a+2<=256)&&decide (v<65536)) (some (.tup [],h.put p (.row 256 [pgL (Er (unN x) a v)] false)))
 | _=>none
def Zs4:Kn1:=fun args h=>match args with
 | [.c (.ptr p 0),.c (.int .i64 a),.c (.int .u32 v)]=>(U8 a).bind fun a=>(U8 v).bind fun v=>(F5 h p).bind fun x=>Yt (decide (a+4<=256)&&decide (v<4294967296)) (some (.tup [],h.put p (.row 256 [pgL (Jd (unN x) a v)] false)))
 | _=>none
def Z1k:Kn1:=fun args h=>match args with
 | [.c (.ptr p 0),.c (.int .i64 a)]=>(U8 a).bind fun a=>(F5 h p).bind fun x=>Yt (decide (a+2<=256)) (some (.w (.c (.int .i64 ((Ed (unN x) a:Nat):Int))),h))
 | _=>none
def Zs3:Kn1:=fun args h=>match args with
 | [.c (.ptr p 0),.c (.int .i64 a)]=>(U8 a).bind fun a=>(F5 h p).bind fun x=>Yt (decide (a+4<=256)) (some (.w (.c (.int .u32 ((Yq (unN x) a:Nat):Int))),h))
 | _=>none
def Znn:Kn1:=fun args h=>match args with
 | [.c (.ptr p 0)]=>(F5 h p).bind fun x=>Yt (L8 (h.get 0)) (some (.w (.c (.int .u32 ((Qa (unN x):Nat):Int))),h))
 | _=>none
def Zs5:Kn1:=fun args h=>match args with
 | [.c (.ptr p 0)]=>(F5 h p).bind fun x=>Yt (L8 (h.get 0)) (some (.tup [],h.put p (.row 256 [pgL (Jd (unN x) 252 (Qa (unN x)))] false)))
 | _=>none
def Zix:Kn1:=fun args h=>match args with
 | [.c (.ptr p 0)]=>(F5 h p).bind fun x=>Yt (L8 (h.get 0)) (some (.w (.c (.bool (((Yq (unN x) 252:Nat):Int) == ((Qa (unN x):Nat):Int)))),h))
 | _=>none
def Zev:Kn1:=fun args h=>match args with
 | [.c (.ptr p 0),.c (.int .i64 a),.c (.int .i64 b)]=>(U8 a).bind fun a=>(U8 b).bind fun b=>(F5 h p).bind fun x=>Yt (decide (a<=b)&&decide (b<=256)) (some (.w (.c (.bool (Fv (unN x) a (b - a)))),h))
 | _=>none
attribute [go_sem] Z1m Zs4 Z1k Zs3 Znn Zs5 Zix Zev
theorem Z91 {ns:Lq} {ro:Bool} (h:256<=ns.length/\ns.length<=256):reaches 0 256 (some (.row 256 [pgL ns] ro))=true:=by
 unfold reaches
 show (match read1 256 [pgL ns] 255 with
  | some _=>Nat.ble 1 256
  | none=>false)=true
 rw[Zr7 oM]
 rfl
attribute [go_sem] Z91
section
variable (Hh:Hearts K Tryz.prog)
include Hh
theorem Z1n {args:List W} {h h':Hq} {v:V} (e:Z1m args h=some (v,h')):Zi 233 args h v h':=by
 unfold Z1m at e
 split at e
 ·obtain⟨a,ha,e⟩:=Zj e
  obtain⟨v,hv,e⟩:=Zj e
  obtain⟨x,hx,e⟩:=Zj e
  obtain⟨ns,rfl,hl,hp⟩:=Js hx
  obtain⟨b,e⟩:=Zq.1 e
  simp only[aQ,decide_eq_true_eq] at b
  obtain⟨b1,b2⟩:=b
  cases e
  rw[Yd ha,Yd hv,Gh,Zh7]
  refine fnG Hh Tryz.f233 ?_
  have Jf:=Ju @hp @hl @Nat.add_zero
  repeat (first|refine Zr Hh (EY Za (Zxo Hh)) Zaa ?_)
  exact Zf
 ·cases e
theorem Zxm {args:List W} {h h':Hq} {v:V} (e:Zs4 args h=some (v,h')):Zi 265 args h v h':=by
 unfold Zs4 at e
 split at e
 ·obtain⟨a,ha,e⟩:=Zj e
  obtain⟨v,hv,e⟩:=Zj e
  obtain⟨x,hx,e⟩:=Zj e
  obtain⟨ns,rfl,hl,hp⟩:=Js hx
  obtain⟨b,e⟩:=Zq.1 e
  simp only[aQ,decide_eq_true_eq] at b
  obtain⟨b1,b2⟩:=b
  cases e
  rw[Yd ha,Yd hv,Gh,Vd]
  refine fnG Hh Tryz.f265 ?_
  have Jf:=Ju @hp @hl @Nat.add_zero
  repeat (first|refine Zr Hh (EY Za (Za5 Hh)) Zaa ?_)
  exact Zf
 ·cases e
theorem Z1l {args:List W} {h h':Hq} {v:V} (e:Z1k args h=some (v,h')):Zi 113 args h v h':=by
 unfold Z1k at e
 split at e
 ·obtain⟨a,ha,e⟩:=Zj e
  obtain⟨x,hx,e⟩:=Zj e
  obtain⟨ns,rfl,hl,hp⟩:=Js hx
  obtain⟨b,e⟩:=Zq.1 e
  simp only[decide_eq_true_eq] at b
  cases e
  have g2:=Zug ns a
  have g3:Ed ns (0+a)=Ed ns a:=by rw[Nat.zero_add]
  rw[Yd ha,Gh,Qj]
  obtain⟨g,hg⟩:=xzE (Ed ns a)
  rw[hg] at g2 ⊢
  refine fnG Hh Tryz.f113 ?_
  have Jf:=Ej @hp @hl @hg @Nat.add_zero @Nat.zero_add
  repeat (first|apply Zu|apply Yc|refine Zr Hh (EY Za (Zxg Hh)) Zaa ?_)
  exact Zf
 ·cases e
theorem Zxl {args:List W} {h h':Hq} {v:V} (e:Zs3 args h=some (v,h')):Zi 157 args h v h':=by
 unfold Zs3 at e
 split at e
 ·obtain⟨a,ha,e⟩:=Zj e
  obtain⟨x,hx,e⟩:=Zj e
  obtain⟨ns,rfl,hl,hp⟩:=Js hx
  obtain⟨b,e⟩:=Zq.1 e
  simp only[decide_eq_true_eq] at b
  cases e
  rw[Yd ha,Gh,Tm]
  refine fnG Hh Tryz.f157 ?_
  have Jf:=Um @hp @hl @Nat.add_zero @Nat.zero_add
  repeat (first|apply Zu|apply Yc|refine Zr Hh (EY Za (Zlf Hh)) Zaa ?_)
  exact Zf
 ·cases e
theorem Ziy {args:List W} {h h':Hq} {v:V} (e:Znn args h=some (v,h')):Zi 158 args h v h':=by
 unfold Znn at e
 split at e
 ·rename_i p
  obtain⟨x,hx,e⟩:=Zj e
  obtain⟨ns,rfl,hl,hp⟩:=Js hx
  obtain⟨b,e⟩:=Zq.1 e
  cases e
  rw[Gh,Zaf]
  refine Zy.tidy ⟨Tryz.f158,Tryz.func158,kR,by decide⟩ fun tidy=>?_
  have hst:=Lm b
  have l0:=tidy _ _ hst
  have l1:=tidy _ _ hp
  obtain⟨v,h',c,rfl,hk⟩:∃ v h',Zi 158 [.c (.ptr p 0)] h v h'/\v=.w (.c (.int .u32 ((Qa ns:Nat):Int)))/\∀ m,m<h.next->h'.get m=h.get m:=by
   refine Y0 Hh Tryz.f158 ?_
   repeat (first|apply Zu|apply Yc|((first|apply Goes.Zl|apply Goes.ops2 fits Hh (EY Za (Z14 Hh))); · simp (maxSteps:=9^6) +decide (disch:=first|exact dZ|fail) only [go_sem,Zk,Zh,simprocAttr,hp,hl,hst,Ni,N9,bound,Zcm,Nat.add_zero,read1,Jn,Rx,Uh,List.replicate_succ,List.replicate_zero]<;>rfl))
   exact⟨_,_,Zf,rfl,fun m hm=>by exact Jg⟩
  exact c.quiet rfl hk
 ·cases e
theorem Zxn {args:List W} {h h':Hq} {v:V} (e:Zs5 args h=some (v,h')):Zi 234 args h v h':=by
 unfold Zs5 at e
 split at e
 ·rename_i p
  obtain⟨x,hx,e⟩:=Zj e
  obtain⟨ns,rfl,hl,hp⟩:=Js hx
  obtain⟨b,e⟩:=Zq.1 e
  cases e
  have hst:=Lm b
  have cl:=Zyu ns
  rw[Gh,Vd,Zaf]
  obtain⟨g,hg⟩:=xzE (Qa ns)
  rw[hg] at cl ⊢
  refine fnG Hh Tryz.f234 ?_
  have Jf:=Um @hp @hl @hst @hg
  repeat (first|refine Zr Hh (EY (EY Za (Ziy Hh)) (Zxm Hh)) Zn ?_)
  exact Zf
 ·cases e
theorem Zqm {args:List W} {h h':Hq} {v:V} (e:Zix args h=some (v,h')):Zi 110 args h v h':=by
 unfold Zix at e
 split at e
 ·rename_i p
  obtain⟨x,hx,e⟩:=Zj e
  obtain⟨ns,rfl,hl,hp⟩:=Js hx
  obtain⟨b,e⟩:=Zq.1 e
  cases e
  have hst:=Lm b
  rw[Gh,Zaf,Tm]
  refine fnG Hh Tryz.f110 ?_
  have Jf:=Ju @hp @hl @hst
  repeat (first|apply Zu|apply Yc|refine Zr Hh (EY (EY Za (Zxl Hh)) (Ziy Hh)) Zn ?_)
  exact Zf
 ·cases e
theorem Znm {args:List W} {h h':Hq} {v:V} (e:Zev args h=some (v,h')):Zi 111 args h v h':=by
 unfold Zev at e
 split at e
 ·obtain⟨a,ha,e⟩:=Zj e
  obtain⟨b,hb,e⟩:=Zj e
  obtain⟨x,hx,e⟩:=Zj e
  obtain⟨ns,rfl,hl,hp⟩:=Js hx
  obtain⟨bb,e⟩:=Zq.1 e
  simp only[aQ,decide_eq_true_eq] at bb
  obtain⟨b1,b2⟩:=bb
  cases e
  rw[Yd ha,Yd hb,Gh,Zbb]
  refine fnG Hh Tryz.f111 ?_
  have Jf:=Ej @hp @hl @Nat.add_zero @Nat.zero_add @Nat.mul_one
  repeat (first|apply Zu|apply Yc|refine Zr Hh (EY Za (Zga Hh)) Zaa ?_)
  rfl
 ·cases e
end
theorem ty57:K.types.get 57=some ti57:=kR
theorem sz57:ti57.size=1:=by rfl
theorem ag57:ti57.agg=false:=by rfl
theorem de57:ti57.desc=(.slice 61):=by rfl
theorem ze57:ti57.zero=(.c (.snil)):=by rfl
theorem by57:ti57.bytes=24:=by rfl
theorem el57:Y7 K 57=some ti61:=kR
theorem ty61:K.types.get 61=some ti61:=kR
theorem sz61:ti61.size=3:=by rfl
theorem ag61:ti61.agg=true:=by rfl
theorem fo61_0:Zm K 61 0=some (0,ti3):=kR
theorem fo61_1:Zm K 61 1=some (1,ti3):=kR
theorem fo61_2:Zm K 61 2=some (2,ti3):=kR
theorem bu61 (ps:List (Nat × W)):Yg K 61 (some ps)=gW (Z8 K 61 ps ti61.zero.cells):=kR
theorem ze61:ti61.zero=(.g ([.int .i64 0,.int .i64 0,.int .i64 0])):=by rfl
theorem by61:ti61.bytes=24:=by rfl
attribute [go_sem] ty57 sz57 ag57 de57 ze57 by57 el57 ty61 sz61 ag61 fo61_0 fo61_1 fo61_2 bu61 ze61 by61
theorem rs232:Tryz.f232.results.toList=[]:=rfl
theorem rs112:Tryz.f112.results.toList=[.cell 4 61]:=rfl
theorem rs114:Tryz.f114.results.toList=[.tmp 4]:=rfl
attribute [go_sem] rs232 rs112 rs114
def Z61 (ns:Lq) (a b c d:Nat):Lq:=Er (Er (Er (Er ns 8 a) 10 b) 12 c) 14 d
def Zl5 (ns:Lq) (i a b c:Nat):Lq:=Er (Er (Er ns i a) (i+2) b) (i+4) c
theorem Z4n (ns:Lq) (i v:Nat):pgL (Er ns i v)=((pgL ns).set i (.int .u8 ((v % 256:Nat):Int))).set (i+1) (.int .u8 ((v / 256 % 256:Nat):Int)):=by rw[Lt,Lt]; rfl
theorem Zuc (ns:Lq) (i a b c:Nat):pgL (Zl5 (ns.map (· % 256)) i a b c)=pgL (Zl5 ns i a b c):=by simp only[Zl5,Z4n,Zrz]
theorem Zuf (ns:Lq) (a b c d:Nat):(Z61 ns a b c d).length=ns.length:=by simp only[Z61,Zc9]
theorem Zl6 (ns:Lq) (i a b c:Nat):(Zl5 ns i a b c).length=ns.length:=by simp only[Zl5,Zc9]
def Ziz:Kn1:=fun args h=>match args with
 | [.c (.int .i64 i),.g [.int .i64 a,.int .i64 b,.int .i64 c],.c (.fn f [some (p,0)] [])]=>(U8 i).bind fun i=>(U8 a).bind fun a=>(U8 b).bind fun b=>(U8 c).bind fun c=>(F5 h p).bind fun x=>Yt (Nat.beq f 233&&decide (i+6<=256)&&decide (a<65536)&&decide (b<65536)&&decide (c<65536)) (some (.tup [],h.put p (.row 256 [pgL (Zl5 (unN x) i a b c)] false)))
 | _=>none
def Ziw:Kn1:=fun args h=>match args with
 | [.c (.int .i64 i),.c (.fn f [some (p,0)] [])]=>(U8 i).bind fun i=>(F5 h p).bind fun x=>Yt (Nat.beq f 113&&decide (i+6<=256)) (some (.w (.g [.int .i64 ((Ed (unN x) i:Nat):Int),.int .i64 ((Ed (unN x) (i+2):Nat):Int),.int .i64 ((Ed (unN x) (i+4):Nat):Int)]),h))
 | _=>none
def Z4a (dt ino:Nat):List C->Bool
 | [.int .i64 x,.int .i64 y,.int .i64 z]=>decide (0<=x)&&decide (x<=(dt:Int))&&decide (0<=y)&&decide (y<=(ino:Int))&&decide (0<=z)&&decide (z<=(ino:Int) - y)
 | _=>false
theorem Zar {dt ino:Nat} {l:List C} (e:Z4a dt ino l=true):∃ x y z:Int,l=[.int .i64 x,.int .i64 y,.int .i64 z]/\0<=x/\x<=(dt:Int)/\0<=y/\y<=(ino:Int)/\0<=z/\z<=(ino:Int) - y:=by
 unfold Z4a at e
 split at e
 ·simp only[aQ,decide_eq_true_eq] at e
  obtain⟨⟨⟨⟨⟨e1,e2⟩,e3⟩,e4⟩,e5⟩,e6⟩:=e
  exact⟨_,_,_,rfl,e1,e2,e3,e4,e5,e6⟩
 ·cases e
def Ztj:Kn1:=fun args h=>match args with
 | [.g [.int .i64 a,.int .i64 b,.int .i64 c,.int .i64 d],.c (.slice n 0 len 3)]=>Zrf a b c d fun a b c _=>match h.get n with
  | some (.row s L _)=>Yt (Nat.beq s 3&&Nat.beq len a&&Nat.beq L.length a&&L.all (Z4a (b - 2 - c / 4) c)) (some (.w (.c (.bool true)),h))
  | _=>none
 | _=>none
attribute [go_sem] Ziz Ziw Ztj Zuc Zuf Zl6 Z4a
theorem Z34 (p o l:Nat):Yx K 57 (.c (.slice p o l 3))=true:=kR
attribute [go_sem] Z34
theorem Z7e {b:Nat} (ns:Lq):Zqv b (.row 256 [pgL ns] false):=Zup fun τ _=>by
 show [(pgL ns).map (C.ren τ)]=_
 rw[Ua (fun a ha=>C.Je ha _) (V8 ns)]
section
variable (Hh:Hearts K Tryz.prog)
include Hh
theorem Zqn {args:List W} {h h':Hq} {v:V} (e:Ziz args h=some (v,h')):Zi 232 args h v h':=by
 unfold Ziz at e
 split at e
 ·rename_i p
  obtain⟨i,hi,e⟩:=Zj e
  obtain⟨a,ha,e⟩:=Zj e
  obtain⟨b,hb,e⟩:=Zj e
  obtain⟨c,hc,e⟩:=Zj e
  obtain⟨x,hx,e⟩:=Zj e
  obtain⟨ns,rfl,hl,hp⟩:=Js hx
  obtain⟨q,e⟩:=Zq.1 e
  simp only[aQ,decide_eq_true_eq] at q
  obtain⟨⟨⟨⟨q1,q2⟩,q3⟩,q4⟩,q5⟩:=q
  cases e
  obtain rfl:=bQ q1
  rw[Yd hi,Yd ha,Yd hb,Yd hc,Gh,Zuc]
  have e2:(i:Int)+2=((i+2:Nat):Int):=rfl
  have e4:(i:Int)+4=((i+4:Nat):Int):=rfl
  unfold Zl5
  refine Zy.tidy ⟨Tryz.f232,Tryz.func232,kR,by decide⟩ fun tidy=>?_
  have lp:=tidy _ _ hp
  have pp:=@H.Zf5
  obtain⟨v,h',cc,rfl,hk⟩:∃ v h',Zi 232 [.c (.int .i64 (i:Int)),.g [.int .i64 (a:Int),.int .i64 (b:Int),.int .i64 (c:Int)],.c (.fn 233 [some (p,0)] [])] h v h'/\v=.tup []/\∀ m,m<h.next->h'.get m=(h.put p (.row 256 [pgL (Er (Er (Er ns i a) (i+2) b) (i+4) c)] false)).get m:=by
   refine Y0 Hh Tryz.f232 ?_
   have Jf:=Ej @hp @hl @e2 @e4 @pp
   repeat (first|apply Zu|refine Zr Hh (EY Za (Z1n Hh)) Ew ?_)
   exact⟨_,_,Zf,rfl,fun m hm=>by exact Le⟩
  exact cc.settle ((Ru.refl tidy).put lp (Z7e _)) (Zgd.flat rfl) hk
 ·cases e
theorem Zql {args:List W} {h h':Hq} {v:V} (e:Ziw args h=some (v,h')):Zi 112 args h v h':=by
 unfold Ziw at e
 split at e
 ·rename_i p
  obtain⟨i,hi,e⟩:=Zj e
  obtain⟨x,hx,e⟩:=Zj e
  obtain⟨ns,rfl,hl,hp⟩:=Js hx
  obtain⟨q,e⟩:=Zq.1 e
  simp only[aQ,decide_eq_true_eq] at q
  obtain⟨q1,q2⟩:=q
  cases e
  obtain rfl:=bQ q1
  rw[Yd hi]
  simp only[Gh,Qj]
  have e2:(i:Int)+2=((i+2:Nat):Int):=rfl
  have e4:(i:Int)+4=((i+4:Nat):Int):=rfl
  refine Zy.tidy ⟨Tryz.f112,Tryz.func112,kR,by decide⟩ fun tidy=>?_
  have lp:=tidy _ _ hp
  refine X0 rfl ?_
  refine Y0 Hh Tryz.f112 ?_
  have Jf:=Um @hp @hl @e2 @e4
  repeat (first|apply Zu|apply Yc|refine Zr Hh (EY Za (Z1l Hh)) Du ?_)
  exact⟨_,_,Zf,rfl,fun m hm=>by exact Le⟩
 ·cases e
theorem Zll {args:List W} {h h':Hq} {v:V} (e:Ztj args h=some (v,h')):Zi 114 args h v h':=by
 unfold Ztj at e
 split at e
 ·rename_i n len
  obtain⟨a,b,c,d,rfl,rfl,rfl,rfl,f,e⟩:=Tk e
  split at e
  ·rename_i s L ro heq
   obtain⟨q,e⟩:=Zq.1 e
   cases e
   simp only[aQ] at q
   obtain⟨⟨⟨q1,q2⟩,q3⟩,q4⟩:=q
   obtain rfl:=bQ q1
   obtain rfl:=bQ q2
   have q3:=bQ q3
   have q4:=List.all_eq_true.1 q4
   have F:=Ya f
   obtain⟨g1,g2,g3,g4,g5,g6,g7,g8,g9,g10,g11⟩:=F
   refine Zy.tidy ⟨Tryz.f114,Tryz.func114,kR,by decide⟩ fun tidy=>?_
   have l1:=tidy _ _ heq
   refine X0 rfl ?_
   rcases L with _|⟨r0,_|⟨r1,_|⟨r2,_|⟨r3,_|⟨r4,L⟩⟩⟩⟩⟩
   ·simp only[List.length_nil] at q3; omega
   rotate_right
   ·simp only[List.length_cons] at q3; omega
   all_goals
    simp only[List.length_cons,List.length_nil] at q3
    subst q3
    obtain⟨x0,y0,z0,rfl,a1,a2,a3,a4,a5,a6⟩:=Zar (q4 r0 (by simp))
    try obtain⟨x1,y1,z1,rfl,b1,b2,b3,b4,b5,b6⟩:=Zar (q4 r1 (by simp))
    try obtain⟨x2,y2,z2,rfl,c1,c2,c3,c4,c5,c6⟩:=Zar (q4 r2 (by simp))
    try obtain⟨x3,y3,z3,rfl,d1,d2,d3,d4,d5,d6⟩:=Zar (q4 r3 (by simp))
    refine Y0 Hh Tryz.f114 ?_
    have Jf:=Jl @f @heq
    repeat (first|apply Zu|apply Jc|apply J8|apply Ye|apply Gr|apply Yc|refine Goes.Zl Bi ?_|refine Zr Hh (EY Za (Zxv Hh)) Bi ?_)
    exact⟨_,_,Zf,rfl,fun m hm=>by exact Le⟩
  ·cases e
 ·cases e
end
def Bg:Lq:=List.replicate 256 0
def Et (ns:Lq):Lq:=Jd ns 252 (Qa ns)
abbrev Oq:=Nat × Nat × Nat
def U1 (d:Oq):List C:=[.int .i64 (d.1:Int),.int .i64 (d.2.1:Int),.int .i64 (d.2.2:Int)]
def Lj:List Oq->Nat->Lq->Lq
 | [],_,x=>x
 | d :: D,i,x=>Lj D (i+8) (Zl5 x i d.1 d.2.1 d.2.2)
def getD (ns:Lq) (i:Nat):Oq:=(Ed ns i,Ed ns (i+2),Ed ns (i+4))
def Dc (ns:Lq):Nat->Nat->List Oq
 | 0,_=>[]
 | k+1,i=>getD ns i :: Dc ns k (i+8)
theorem zPg:List.replicate 256 (C.int .u8 0)=pgL Bg:=kR
theorem Zn0:Bg.length=256:=kR
theorem Zk3:∀ D:List Oq,(D.map U1).all (fun l=>l.all C.flat)=true
 | []=>rfl
 | _ :: D=>Zk3 D
theorem Zux:(∀ ns:Lq,(pgL ns).length=ns.length)/\(∀ (ns:Lq) (i v:Nat),(Er ns i v).length=ns.length)/\(∀ (ns:Lq) (i v:Nat),(Jd ns i v).length=ns.length)/\(∀ (ns:Lq) (a b c d:Nat),(Z61 ns a b c d).length=ns.length)/\(∀ (ns:Lq) (i a b c:Nat),(Zl5 ns i a b c).length=ns.length):=⟨Oz,Zc9,Qx,Zuf,Zl6⟩
theorem Z4r {ns:Lq} (h:ns.length<=256/\256<=ns.length):Zk 256 [pgL ns] 0 256=some (pgL ns):=Zdg (by rw[Oz]; omega)
theorem Yaj {ns:Lq} {x:List C} (h:(ns.length<=256/\256<=ns.length)/\x.length<=256/\256<=x.length):Z5 256 [x] 0 (pgL ns)=some [pgL ns]:=Q8 (by rw[Oz]; omega)
theorem rd4 (a b c d:C):Zk 4 [[a,b,c,d]] 0 4=some [a,b,c,d]:=rfl
theorem rd30 (x y z:C) (L:List (List C)):Zk 3 ([x,y,z] :: L) 0 3=some [x,y,z]:=rfl
theorem rd31 (r0:List C) (x y z:C) (L:List (List C)):Zk 3 (r0 :: [x,y,z] :: L) 3 3=some [x,y,z]:=rfl
theorem rd32 (r0 r1:List C) (x y z:C) (L:List (List C)):Zk 3 (r0 :: r1 :: [x,y,z] :: L) 6 3=some [x,y,z]:=rfl
theorem rd33 (r0 r1 r2:List C) (x y z:C) (L:List (List C)):Zk 3 (r0 :: r1 :: r2 :: [x,y,z] :: L) 9 3=some [x,y,z]:=rfl
theorem wr30 (x y z a b c:C) (L:List (List C)):Z5 3 ([x,y,z] :: L) 0 [a,b,c]=some ([a,b,c] :: L):=rfl
theorem wr31 (r0:List C) (x y z a b c:C) (L:List (List C)):Z5 3 (r0 :: [x,y,z] :: L) 3 [a,b,c]=some (r0 :: [a,b,c] :: L):=rfl
theorem wr32 (r0 r1:List C) (x y z a b c:C) (L:List (List C)):Z5 3 (r0 :: r1 :: [x,y,z] :: L) 6 [a,b,c]=some (r0 :: r1 :: [a,b,c] :: L):=rfl
theorem wr33 (r0 r1 r2:List C) (x y z a b c:C) (L:List (List C)):Z5 3 (r0 :: r1 :: r2 :: [x,y,z] :: L) 9 [a,b,c]=some (r0 :: r1 :: r2 :: [a,b,c] :: L):=rfl
section
variable (Hh:Hearts K Tryz.prog)
include Hh
end
open Go.Ev
theorem rs189:Tryz.f189.results.toList=[.cell 4 66,.tmp 5]:=rfl
attribute [go_sem] rs189
section
variable (Hh:Hearts K Tryz.prog)
include Hh
theorem Zxa {a b c d n:Nat} {D:List Oq} {ro:Bool} (f:Y1 a b c d=true) {h:Hq} (hst:h.get 0=some Bj) (hn:h.get n=some (.row 3 (D.map U1) ro)) (hD:D.length=a) (ok:∀ d∈D,d.1<=b - 2 - c / 4/\d.2.1<=c/\d.2.2+d.2.1<=c) :
  Zi 189 [.g [.int .i64 (a:Int),.int .i64 (b:Int),.int .i64 (c:Int),.int .i64 (d:Int)],.c (.slice n 0 a 3)] h (.tup [.g (pgL (Et (Lj D 0 Bg))),.c (.int .i64 0)]) h:=by
 obtain⟨g1,g2,g3,g4,g5,g6,g7,g8,g9,g10,g11⟩:=Ya f
 obtain⟨Z,hZ⟩:=xzE (Bg)
 have z0:=zPg
 have zl:=Zn0
 rw[hZ] at z0 zl ⊢
 refine Zy.tidy ⟨Tryz.f189,Tryz.func189,kR,by decide⟩ fun tidy=>?_
 have l0:=tidy _ _ hst
 have l1:=tidy _ _ hn
 refine X0 (by simp only[V.flat,W.flat,List.all_cons,V8]; rfl) ?_
 rcases D with _|⟨⟨x0,y0,w0⟩,_|⟨⟨x1,y1,w1⟩,_|⟨⟨x2,y2,w2⟩,_|⟨⟨x3,y3,w3⟩,_|⟨r4,D⟩⟩⟩⟩⟩
 ·simp only[List.length_nil] at hD; omega
 rotate_right
 ·simp only[List.length_cons] at hD; omega
 all_goals
  simp only[List.length_cons,List.length_nil,Nat.reduceAdd] at hD
  subst hD
  simp only[List.map_cons,List.map_nil,U1] at hn
  have o0:=ok (x0,y0,w0) (by simp)
  try have o1:=ok (x1,y1,w1) (by simp)
  try have o2:=ok (x2,y2,w2) (by simp)
  try have o3:=ok (x3,y3,w3) (by simp)
  simp only at o0
  try simp only at o1
  try simp only at o2
  try simp only at o3
  refine Y0 Hh Tryz.f189 ?_
  repeat (first|apply Zu|apply Jc|apply J8|apply Ye|apply Gr|apply Yc|((first|apply Goes.Zl|apply Goes.ops2 fits Hh (EY (EY (EY (EY Za (Br Hh)) (Zll Hh)) (Zqn Hh)) (Zxn Hh))); · simp (maxSteps:=9^6) +decide (disch:=first|omega|(simp only[lens,Zux]<;>omega)|decide) only [go_sem,Zh,simprocAttr,f,hst,hn,List.all_cons,List.all_nil,Bool.and_true,Bool.true_and,z0,zl,Z4r,Yaj,rd4,rd30,rd31,rd32,rd33,Yy,Zt,J5,read1]<;>rfl))
  exact⟨_,_,(by simp (maxSteps:=9^6) +decide (disch:=first|omega|(simp only[lens,Zux]<;>omega)|decide) only [go_sem,Zh,simprocAttr,zl,Z4r]<;>rfl),(by simp only[Et,Lj,Nat.reduceAdd]),fun m hm=>by exact Jg⟩
end
theorem rs53:Tryz.f53.results.toList=[.tmp 4,.tmp 5]:=rfl
attribute [go_sem] rs53
section
variable (Hh:Hearts K Tryz.prog)
include Hh
theorem Zwy {a b c d:Nat} {ns:Lq} (f:Y1 a b c d=true) {h:Hq} (hst:h.get 0=some Bj) (hl:ns.length=256) (s1:Yq ns 252=Qa ns) (s2:Fv ns (8 * a) (252 - 8 * a)=true) (s3:∀ k,k<a->Fv ns (8 * k+6) 2=true) (ok:∀ d∈Dc ns a 0,d.1<=b - 2 - c / 4/\d.2.1<=c/\d.2.2+d.2.1<=c) :
  Zi 53 [.g [.int .i64 (a:Int),.int .i64 (b:Int),.int .i64 (c:Int),.int .i64 (d:Int)],.g (pgL ns)] h (.tup [.c (.slice h.next 0 a 3),.c (.int .i64 0)]) (h.new (.row 3 ((Dc ns a 0).map U1) false)):=by
 obtain⟨g1,g2,g3,g4,g5,g6,g7,g8,g9,g10,g11⟩:=Ya f
 refine Zy.tidy ⟨Tryz.f53,Tryz.func53,kR,by decide⟩ fun tidy=>?_
 have l0:=tidy _ _ hst
 have t0:Fv ns 6 2=true:=s3 0 oM
 have t1:1<a->Fv ns 14 2=true:=s3 1
 have t2:2<a->Fv ns 22 2=true:=s3 2
 have t3:3<a->Fv ns 30 2=true:=s3 3
 obtain⟨v,h',cc,n,rfl,n1,n2,n3,hk⟩:∃ v h',Zi 53 [.g [.int .i64 (a:Int),.int .i64 (b:Int),.int .i64 (c:Int),.int .i64 (d:Int)],.g (pgL ns)] h v h'/\∃ n,v=.tup [.c (.slice n 0 a 3),.c (.int .i64 0)]/\h.next<=n/\n<h'.next/\h'.get n=some (.row 3 ((Dc ns a 0).map U1) false)/\∀ m,m<h.next->h'.get m=h.get m:=by
  obtain rfl|rfl|rfl|rfl:a=1\/a=2\/a=3\/a=4:=oM
  all_goals
   simp only[Dc,getD,List.forall_mem_cons,Nat.reduceAdd,Nat.reduceMul,Nat.reduceSub] at ok s2
   obtain⟨o0,ok⟩:=ok
   try obtain⟨o1,ok⟩:=ok
   try obtain⟨o2,ok⟩:=ok
   try obtain⟨o3,ok⟩:=ok
   refine Y0 Hh Tryz.f53 ?_
   repeat (first|apply Zu|apply Jc|apply J8|apply Ye|apply Gr|apply Yc|((first|apply Goes.Zl|apply Goes.ops2 fits Hh (EY (EY (EY (EY (EY Za (Br Hh)) (Zqm Hh)) (Znm Hh)) (Zql Hh)) (Zll Hh))); · simp (maxSteps:=9^6) +decide (disch:=first|omega|(simp only[lens,Zux]<;>omega)|decide) only [go_sem,Zh,simprocAttr,f,hst,hl,List.all_cons,List.all_nil,Bool.and_true,Bool.true_and,s1,s2,t0,t1,t2,t3,Z4r,Yaj,rd4,rd30,rd31,rd32,rd33,wr30,wr31,wr32,wr33,List.replicate_succ,List.replicate_zero,Yy,Zt,J5,Un,Uh,read1]<;>rfl))
   exact⟨_,_,(by simp (maxSteps:=9^6) +decide (disch:=first|omega|(simp only[lens,Zux]<;>omega)|decide) only [go_sem,Zh,simprocAttr,hl,Z4r]<;>rfl),_,rfl,(by first|omega|(simp only[H.Zc,H.Zb]<;>omega)),(by first|omega|(simp only[H.Zc,H.Zb]<;>omega)),by simp (maxSteps:=9^6) +decide (disch:=first|exact dZ|fail) only [go_sem,Zh,simprocAttr,Dc,getD,U1,List.map_cons,List.map_nil]<;>rfl,fun m hm=>by exact Jg⟩
 exact Zy.row cc n1 n3 rfl (Zk3 _) n2 hk
end
end
end Go.Proofs.YteiljiijagmonaaGreatDoor
