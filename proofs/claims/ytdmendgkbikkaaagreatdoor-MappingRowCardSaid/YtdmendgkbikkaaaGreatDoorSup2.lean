/- Pages of super: numbers put and got, the sum, noughts. -/
import Derived.Test.YtdmendgkbikkaaaGreatDoorPag
import Derived.Test.YtdmendgkbikkaaaGreatDoorHba
set_option linter.unusedSimpArgs false
set_option linter.unusedVariables false
set_option linter.unusedSectionVars false
set_option maxRecDepth 100000
set_option maxHeartbeats 4000000
namespace Go.Proofs.YtdmendgkbikkaaaGreatDoor
open Go.Ev
theorem ty223:K.types.get 223=some ti223:=by kernel_rfl
theorem sz223:ti223.size=256:=by rfl
theorem ag223:ti223.agg=true:=by rfl
theorem fo223_0:Zk K 223 0=some (0,ti73):=by kernel_rfl
theorem bu223 (ps:List (Nat × W)):Yd K 223 (some ps)=gW (Z4 K 223 ps ti223.zero.cells):=by kernel_rfl
theorem ze223:ti223.zero=(.g ((List.replicate 256 (.int .u8 0)))):=by rfl
theorem by223:ti223.bytes=256:=by rfl
theorem ty352:K.types.get 352=some ti352:=by kernel_rfl
theorem sz352:ti352.size=1:=by rfl
theorem ag352:ti352.agg=false:=by rfl
theorem de352:ti352.desc=(.slice 145):=by rfl
theorem ze352:ti352.zero=(.c (.snil)):=by rfl
theorem by352:ti352.bytes=24:=by rfl
theorem el352:Y1 K 352=some ti145:=by kernel_rfl
attribute [go_sem] ty223 sz223 ag223 fo223_0 bu223 ze223 by223 ty352 sz352 ag352 de352 ze352 by352 el352
theorem rs235:Tryz.f235.results.toList=[]:=rfl
theorem rs115:Tryz.f115.results.toList=[.tmp 4]:=rfl
theorem rs267:Tryz.f267.results.toList=[]:=rfl
theorem rs159:Tryz.f159.results.toList=[.tmp 4]:=rfl
theorem rs160:Tryz.f160.results.toList=[.tmp 2]:=rfl
theorem rs236:Tryz.f236.results.toList=[]:=rfl
theorem rs112:Tryz.f112.results.toList=[.tmp 2]:=rfl
theorem rs113:Tryz.f113.results.toList=[.tmp 6]:=rfl
attribute [go_sem] rs235 rs115 rs267 rs159 rs160 rs236 rs112 rs113
noncomputable def Zyb:Kn1:=fun args h=>match args with
 | [.c (.ptr p 0),.c (.int .i64 a),.c (.int .i64 v)]=>(Ue a).bind fun a=>(Ue v).bind fun v=>(Dt h p).bind fun x=>Yp (decide (a+2≤256)&&decide (v<65536)) (some (.tup [],h.put p (.row 256 [pgL (Bp (unN x) a v)] false)))
 | _=>none
noncomputable def Zpt:Kn1:=fun args h=>match args with
 | [.c (.ptr p 0),.c (.int .i64 a),.c (.int .u32 v)]=>(Ue a).bind fun a=>(Ue v).bind fun v=>(Dt h p).bind fun x=>Yp (decide (a+4≤256)&&decide (v<4294967296)) (some (.tup [],h.put p (.row 256 [pgL (Jh (unN x) a v)] false)))
 | _=>none
noncomputable def Zx9:Kn1:=fun args h=>match args with
 | [.c (.ptr p 0),.c (.int .i64 a)]=>(Ue a).bind fun a=>(Dt h p).bind fun x=>Yp (decide (a+2≤256)) (some (.w (.c (.int .i64 ((Bw (unN x) a:Nat):Int))),h))
 | _=>none
noncomputable def Zps:Kn1:=fun args h=>match args with
 | [.c (.ptr p 0),.c (.int .i64 a)]=>(Ue a).bind fun a=>(Dt h p).bind fun x=>Yp (decide (a+4≤256)) (some (.w (.c (.int .u32 ((Y5 (unN x) a:Nat):Int))),h))
 | _=>none
noncomputable def Zkk:Kn1:=fun args h=>match args with
 | [.c (.ptr p 0)]=>(Dt h p).bind fun x=>Yp (Ec (h.get 0)) (some (.w (.c (.int .u32 ((Vg (unN x):Nat):Int))),h))
 | _=>none
noncomputable def Zpu:Kn1:=fun args h=>match args with
 | [.c (.ptr p 0)]=>(Dt h p).bind fun x=>Yp (Ec (h.get 0)) (some (.tup [],h.put p (.row 256 [pgL (Jh (unN x) 252 (Vg (unN x)))] false)))
 | _=>none
noncomputable def Zge:Kn1:=fun args h=>match args with
 | [.c (.ptr p 0)]=>(Dt h p).bind fun x=>Yp (Ec (h.get 0)) (some (.w (.c (.bool (((Y5 (unN x) 252:Nat):Int) == ((Vg (unN x):Nat):Int)))),h))
 | _=>none
noncomputable def Zck:Kn1:=fun args h=>match args with
 | [.c (.ptr p 0),.c (.int .i64 a),.c (.int .i64 b)]=>(Ue a).bind fun a=>(Ue b).bind fun b=>(Dt h p).bind fun x=>Yp (decide (a≤b)&&decide (b≤256)) (some (.w (.c (.bool (Mk (unN x) a (b - a)))),h))
 | _=>none
attribute [go_sem] Zyb Zpt Zx9 Zps Zkk Zpu Zge Zck
theorem Z5p {ns:List Nat} {ro:Bool} (h:256≤ns.length∧ns.length≤256):reaches 0 256 (some (.row 256 [pgL ns] ro))=true:=by
 unfold reaches
 show (match read1 256 [pgL ns] 255 with
  | some _=>Nat.ble 1 256
  | none=>false)=true
 rw[Zw4 (by omega)]
 rfl
attribute [go_sem] Z5p
section
variable (Hh:Hearts K Tryz.prog)
include Hh
theorem Zyc {args:List W} {h h':Go.Ev.H} {v:V} (e:Zyb args h=some (v,h')):Zg 235 args h v h':=by
 unfold Zyb at e
 split at e
 ·obtain⟨a,ha,e⟩:=Zh e
  obtain⟨v,hv,e⟩:=Zh e
  obtain⟨x,hx,e⟩:=Zh e
  obtain⟨ns,rfl,hl,hp⟩:=Jp hx
  obtain⟨b,e⟩:=Zr.1 e
  simp only[Bool.and_eq_true,decide_eq_true_eq] at b
  obtain⟨b1,b2⟩:=b
  cases e
  rw[Yc ha,Yc hv,Ga,Zfp]
  refine fnG Hh Tryz.f235 ?_
  have Jf:=Uc @hp @hl @Nat.add_zero
  repeat (first|refine Zy Hh (EY Za (Zt4 Hh)) Xg ?_)
  exact Zj
 ·cases e
theorem Zt2 {args:List W} {h h':Go.Ev.H} {v:V} (e:Zpt args h=some (v,h')):Zg 267 args h v h':=by
 unfold Zpt at e
 split at e
 ·obtain⟨a,ha,e⟩:=Zh e
  obtain⟨v,hv,e⟩:=Zh e
  obtain⟨x,hx,e⟩:=Zh e
  obtain⟨ns,rfl,hl,hp⟩:=Jp hx
  obtain⟨b,e⟩:=Zr.1 e
  simp only[Bool.and_eq_true,decide_eq_true_eq] at b
  obtain⟨b1,b2⟩:=b
  cases e
  rw[Yc ha,Yc hv,Ga,V7]
  refine fnG Hh Tryz.f267 ?_
  have Jf:=Uc @hp @hl @Nat.add_zero
  repeat (first|refine Zy Hh (EY Za (Zil Hh)) Xg ?_)
  exact Zj
 ·cases e
theorem Zya {args:List W} {h h':Go.Ev.H} {v:V} (e:Zx9 args h=some (v,h')):Zg 115 args h v h':=by
 unfold Zx9 at e
 split at e
 ·obtain⟨a,ha,e⟩:=Zh e
  obtain⟨x,hx,e⟩:=Zh e
  obtain⟨ns,rfl,hl,hp⟩:=Jp hx
  obtain⟨b,e⟩:=Zr.1 e
  simp only[decide_eq_true_eq] at b
  cases e
  have g2:=Zq3 ns a
  have g3:Bw ns (0+a)=Bw ns a:=by rw[Nat.zero_add]
  rw[Yc ha,Ga,Vo]
  obtain⟨g,hg⟩:∃ g,Bw ns a=g:=⟨_,rfl⟩
  rw[hg] at g2 ⊢
  refine fnG Hh Tryz.f115 ?_
  have Jf:=Mt @hp @hl @hg @Nat.add_zero @Nat.zero_add
  repeat (first|apply Zp|apply Yb|refine Zy Hh (EY Za (Ztw Hh)) Xg ?_)
  exact Zj
 ·cases e
theorem Zt1 {args:List W} {h h':Go.Ev.H} {v:V} (e:Zps args h=some (v,h')):Zg 159 args h v h':=by
 unfold Zps at e
 split at e
 ·obtain⟨a,ha,e⟩:=Zh e
  obtain⟨x,hx,e⟩:=Zh e
  obtain⟨ns,rfl,hl,hp⟩:=Jp hx
  obtain⟨b,e⟩:=Zr.1 e
  simp only[decide_eq_true_eq] at b
  cases e
  rw[Yc ha,Ga,Rc]
  refine fnG Hh Tryz.f159 ?_
  have Jf:=Oz @hp @hl @Nat.add_zero @Nat.zero_add
  repeat (first|apply Zp|apply Yb|refine Zy Hh (EY Za (Zig Hh)) Xg ?_)
  exact Zj
 ·cases e
theorem Zgf {args:List W} {h h':Go.Ev.H} {v:V} (e:Zkk args h=some (v,h')):Zg 160 args h v h':=by
 unfold Zkk at e
 split at e
 ·rename_i p
  obtain⟨x,hx,e⟩:=Zh e
  obtain⟨ns,rfl,hl,hp⟩:=Jp hx
  obtain⟨b,e⟩:=Zr.1 e
  cases e
  rw[Ga,Xk]
  refine Zv.tidy ⟨Tryz.f160,Tryz.func160,by kernel_rfl,by decide⟩ fun tidy=>?_
  have hst:=Er b
  have l0:=tidy _ _ hst
  have l1:=tidy _ _ hp
  obtain⟨v,h',c,rfl,hk⟩:∃ v h',Zg 160 [.c (.ptr p 0)] h v h'∧v=.w (.c (.int .u32 ((Vg ns:Nat):Int)))∧∀ m,m<h.next→h'.get m=h.get m:=by
   refine Jd Hh Tryz.f160 ?_
   repeat (first|apply Zp|apply Yb|((first|apply Goes.Zn|apply Goes.ops2 fits Hh (EY Za (Zyt Hh))); · simp (maxSteps:=9^6) +decide (disch:=first|omega|(simp only[lens]<;>omega)|decide) only [go_sem,Zm,Ze,simprocAttr,hp,hl,hst,Na,Mo,bound,Zct,Nat.add_zero,read1,Y4,M0,J8,List.replicate_succ,List.replicate_zero]<;>rfl))
   exact⟨_,_,Zj,rfl,fun m hm=>by exact Jg⟩
  exact c.quiet rfl hk
 ·cases e
theorem Zt3 {args:List W} {h h':Go.Ev.H} {v:V} (e:Zpu args h=some (v,h')):Zg 236 args h v h':=by
 unfold Zpu at e
 split at e
 ·rename_i p
  obtain⟨x,hx,e⟩:=Zh e
  obtain⟨ns,rfl,hl,hp⟩:=Jp hx
  obtain⟨b,e⟩:=Zr.1 e
  cases e
  have hst:=Er b
  have cl:=Zvb ns
  rw[Ga,V7,Xk]
  obtain⟨g,hg⟩:∃ g,Vg ns=g:=⟨_,rfl⟩
  rw[hg] at cl ⊢
  refine fnG Hh Tryz.f236 ?_
  have Jf:=Oz @hp @hl @hst @hg
  repeat (first|refine Zy Hh (EY (EY Za (Zgf Hh)) (Zt2 Hh)) Zq ?_)
  exact Zj
 ·cases e
theorem Znb {args:List W} {h h':Go.Ev.H} {v:V} (e:Zge args h=some (v,h')):Zg 112 args h v h':=by
 unfold Zge at e
 split at e
 ·rename_i p
  obtain⟨x,hx,e⟩:=Zh e
  obtain⟨ns,rfl,hl,hp⟩:=Jp hx
  obtain⟨b,e⟩:=Zr.1 e
  cases e
  have hst:=Er b
  rw[Ga,Xk,Rc]
  refine fnG Hh Tryz.f112 ?_
  have Jf:=Uc @hp @hl @hst
  repeat (first|apply Zp|apply Yb|refine Zy Hh (EY (EY Za (Zt1 Hh)) (Zgf Hh)) Zq ?_)
  exact Zj
 ·cases e
theorem Zkj {args:List W} {h h':Go.Ev.H} {v:V} (e:Zck args h=some (v,h')):Zg 113 args h v h':=by
 unfold Zck at e
 split at e
 ·obtain⟨a,ha,e⟩:=Zh e
  obtain⟨b,hb,e⟩:=Zh e
  obtain⟨x,hx,e⟩:=Zh e
  obtain⟨ns,rfl,hl,hp⟩:=Jp hx
  obtain⟨bb,e⟩:=Zr.1 e
  simp only[Bool.and_eq_true,decide_eq_true_eq] at bb
  obtain⟨b1,b2⟩:=bb
  cases e
  rw[Yc ha,Yc hb,Ga,Zbl]
  refine fnG Hh Tryz.f113 ?_
  have Jf:=Mt @hp @hl @Nat.add_zero @Nat.zero_add @Nat.mul_one
  repeat (first|apply Zp|apply Yb|refine Zy Hh (EY Za (Z1r Hh)) Xg ?_)
  rfl
 ·cases e
end
theorem ty59:K.types.get 59=some ti59:=by kernel_rfl
theorem sz59:ti59.size=1:=by rfl
theorem ag59:ti59.agg=false:=by rfl
theorem de59:ti59.desc=(.slice 63):=by rfl
theorem ze59:ti59.zero=(.c (.snil)):=by rfl
theorem by59:ti59.bytes=24:=by rfl
theorem el59:Y1 K 59=some ti63:=by kernel_rfl
theorem ty63:K.types.get 63=some ti63:=by kernel_rfl
theorem sz63:ti63.size=3:=by rfl
theorem ag63:ti63.agg=true:=by rfl
theorem fo63_0:Zk K 63 0=some (0,ti3):=by kernel_rfl
theorem fo63_1:Zk K 63 1=some (1,ti3):=by kernel_rfl
theorem fo63_2:Zk K 63 2=some (2,ti3):=by kernel_rfl
theorem bu63 (ps:List (Nat × W)):Yd K 63 (some ps)=gW (Z4 K 63 ps ti63.zero.cells):=by kernel_rfl
theorem ze63:ti63.zero=(.g ([.int .i64 0,.int .i64 0,.int .i64 0])):=by rfl
theorem by63:ti63.bytes=24:=by rfl
attribute [go_sem] ty59 sz59 ag59 de59 ze59 by59 el59 ty63 sz63 ag63 fo63_0 fo63_1 fo63_2 bu63 ze63 by63
theorem rs234:Tryz.f234.results.toList=[]:=rfl
theorem rs114:Tryz.f114.results.toList=[.cell 4 63]:=rfl
theorem rs116:Tryz.f116.results.toList=[.tmp 4]:=rfl
attribute [go_sem] rs234 rs114 rs116
def Zlw (ns:List Nat) (a b c d:Nat):List Nat:=Bp (Bp (Bp (Bp ns 8 a) 10 b) 12 c) 14 d
def Zja (ns:List Nat) (i a b c:Nat):List Nat:=Bp (Bp (Bp ns i a) (i+2) b) (i+4) c
theorem Zri (ns:List Nat) (i v:Nat):pgL (Bp ns i v)=((pgL ns).set i (.int .u8 ((v % 256:Nat):Int))).set (i+1) (.int .u8 ((v / 256 % 256:Nat):Int)):=by rw[Eu,Eu]; rfl
theorem Zz5 (ns:List Nat) (a b c d:Nat):pgL (Zlw (ns.map (· % 256)) a b c d)=pgL (Zlw ns a b c d):=by simp only[Zlw,Zri,Zjz]
theorem Zqy (ns:List Nat) (i a b c:Nat):pgL (Zja (ns.map (· % 256)) i a b c)=pgL (Zja ns i a b c):=by simp only[Zja,Zri,Zjz]
theorem Zq2 (ns:List Nat) (a b c d:Nat):(Zlw ns a b c d).length=ns.length:=by simp only[Zlw,Zau]
theorem Zjb (ns:List Nat) (i a b c:Nat):(Zja ns i a b c).length=ns.length:=by simp only[Zja,Zau]
noncomputable def Z1m:Kn1:=fun args h=>match args with
 | [.g [.int .i64 a,.int .i64 b,.int .i64 c,.int .i64 d],.c (.fn f [some (p,0)] [])]=>Qf a b c d fun a b c d=>(Dt h p).bind fun x=>Yp (Nat.beq f 235) (some (.tup [],h.put p (.row 256 [pgL (Zlw (unN x) a b c d)] false)))
 | _=>none
noncomputable def Zgg:Kn1:=fun args h=>match args with
 | [.c (.int .i64 i),.g [.int .i64 a,.int .i64 b,.int .i64 c],.c (.fn f [some (p,0)] [])]=>(Ue i).bind fun i=>(Ue a).bind fun a=>(Ue b).bind fun b=>(Ue c).bind fun c=>(Dt h p).bind fun x=>Yp (Nat.beq f 235&&decide (i+6≤256)&&decide (a<65536)&&decide (b<65536)&&decide (c<65536)) (some (.tup [],h.put p (.row 256 [pgL (Zja (unN x) i a b c)] false)))
 | _=>none
noncomputable def Zgd:Kn1:=fun args h=>match args with
 | [.c (.int .i64 i),.c (.fn f [some (p,0)] [])]=>(Ue i).bind fun i=>(Dt h p).bind fun x=>Yp (Nat.beq f 115&&decide (i+6≤256)) (some (.w (.g [.int .i64 ((Bw (unN x) i:Nat):Int),.int .i64 ((Bw (unN x) (i+2):Nat):Int),.int .i64 ((Bw (unN x) (i+4):Nat):Int)]),h))
 | _=>none
noncomputable def Zt0:Kn1:=fun args h=>match args with
 | [.g [.int .i64 a,.int .i64 b,.int .i64 c,.int .i64 d,.int .u32 z]]=>Qf a b c d fun _ _ _ _=>Yp (decide (z=0)) (some (.w (.c (.bool true)),h))
 | _=>none
def Z0l (dt ino:Nat):List C→Bool
 | [.int .i64 x,.int .i64 y,.int .i64 z]=>decide (0≤x)&&decide (x≤(dt:Int))&&decide (0≤y)&&decide (y≤(ino:Int))&&decide (0≤z)&&decide (z≤(ino:Int) - y)
 | _=>false
theorem Xr {dt ino:Nat} {l:List C} (e:Z0l dt ino l=true):∃ x y z:Int,l=[.int .i64 x,.int .i64 y,.int .i64 z]∧0≤x∧x≤(dt:Int)∧0≤y∧y≤(ino:Int)∧0≤z∧z≤(ino:Int) - y:=by
 unfold Z0l at e
 split at e
 ·simp only[Bool.and_eq_true,decide_eq_true_eq] at e
  obtain⟨⟨⟨⟨⟨e1,e2⟩,e3⟩,e4⟩,e5⟩,e6⟩:=e
  exact⟨_,_,_,rfl,e1,e2,e3,e4,e5,e6⟩
 ·cases e
noncomputable def Zp6:Kn1:=fun args h=>match args with
 | [.g [.int .i64 a,.int .i64 b,.int .i64 c,.int .i64 d],.c (.slice n 0 len 3)]=>Qf a b c d fun a b c _=>match h.get n with
  | some (.row s L _)=>Yp (Nat.beq s 3&&Nat.beq len a&&Nat.beq L.length a&&L.all (Z0l (b - 2 - c / 4) c)) (some (.w (.c (.bool true)),h))
  | _=>none
 | _=>none
attribute [go_sem] Z1m Zgg Zgd Zt0 Zp6 Zz5 Zqy Zq2 Zjb Z0l
theorem Z0g (p o l:Nat):Yv K 59 (.c (.slice p o l 3))=true:=by kernel_rfl
attribute [go_sem] Z0g
theorem Z3b {b:Nat} (ns:List Nat):Zrr b (.row 256 [pgL ns] false):=Zq8 fun τ _=>by
 show [(pgL ns).map (C.ren τ)]=_
 rw[Uw (fun a ha=>C.Jo ha _) (Zad ns)]
section
variable (Hh:Hearts K Tryz.prog)
include Hh
theorem Znc {args:List W} {h h':Go.Ev.H} {v:V} (e:Zgg args h=some (v,h')):Zg 234 args h v h':=by
 unfold Zgg at e
 split at e
 ·rename_i p
  obtain⟨i,hi,e⟩:=Zh e
  obtain⟨a,ha,e⟩:=Zh e
  obtain⟨b,hb,e⟩:=Zh e
  obtain⟨c,hc,e⟩:=Zh e
  obtain⟨x,hx,e⟩:=Zh e
  obtain⟨ns,rfl,hl,hp⟩:=Jp hx
  obtain⟨q,e⟩:=Zr.1 e
  simp only[Bool.and_eq_true,decide_eq_true_eq] at q
  obtain⟨⟨⟨⟨q1,q2⟩,q3⟩,q4⟩,q5⟩:=q
  cases e
  obtain rfl:=Nat.eq_of_beq_eq_true q1
  rw[Yc hi,Yc ha,Yc hb,Yc hc,Ga,Zqy]
  have e2:(i:Int)+2=((i+2:Nat):Int):=rfl
  have e4:(i:Int)+4=((i+4:Nat):Int):=rfl
  unfold Zja
  refine Zv.tidy ⟨Tryz.f234,Tryz.func234,by kernel_rfl,by decide⟩ fun tidy=>?_
  have lp:=tidy _ _ hp
  have pp:=@H.Zdv
  obtain⟨v,h',cc,rfl,hk⟩:∃ v h',Zg 234 [.c (.int .i64 (i:Int)),.g [.int .i64 (a:Int),.int .i64 (b:Int),.int .i64 (c:Int)],.c (.fn 235 [some (p,0)] [])] h v h'∧v=.tup []∧∀ m,m<h.next→h'.get m=(h.put p (.row 256 [pgL (Bp (Bp (Bp ns i a) (i+2) b) (i+4) c)] false)).get m:=by
   refine Jd Hh Tryz.f234 ?_
   have Jf:=Mt @hp @hl @e2 @e4 @pp
   repeat (first|apply Zp|refine Zy Hh (EY Za (Zyc Hh)) Zzd ?_)
   exact⟨_,_,Zj,rfl,fun m hm=>by exact F4⟩
  exact cc.settle ((Nu.refl tidy).put lp (Z3b _)) (Zgp.flat rfl) hk
 ·cases e
theorem Zna {args:List W} {h h':Go.Ev.H} {v:V} (e:Zgd args h=some (v,h')):Zg 114 args h v h':=by
 unfold Zgd at e
 split at e
 ·rename_i p
  obtain⟨i,hi,e⟩:=Zh e
  obtain⟨x,hx,e⟩:=Zh e
  obtain⟨ns,rfl,hl,hp⟩:=Jp hx
  obtain⟨q,e⟩:=Zr.1 e
  simp only[Bool.and_eq_true,decide_eq_true_eq] at q
  obtain⟨q1,q2⟩:=q
  cases e
  obtain rfl:=Nat.eq_of_beq_eq_true q1
  rw[Yc hi]
  simp only[Ga,Vo]
  have e2:(i:Int)+2=((i+2:Nat):Int):=rfl
  have e4:(i:Int)+4=((i+4:Nat):Int):=rfl
  refine Zv.tidy ⟨Tryz.f114,Tryz.func114,by kernel_rfl,by decide⟩ fun tidy=>?_
  have lp:=tidy _ _ hp
  refine Wo rfl ?_
  refine Jd Hh Tryz.f114 ?_
  have Jf:=Oz @hp @hl @e2 @e4
  repeat (first|apply Zp|apply Yb|refine Zy Hh (EY Za (Zya Hh)) Zze ?_)
  exact⟨_,_,Zj,rfl,fun m hm=>by exact F4⟩
 ·cases e
theorem Zip {args:List W} {h h':Go.Ev.H} {v:V} (e:Zp6 args h=some (v,h')):Zg 116 args h v h':=by
 unfold Zp6 at e
 split at e
 ·rename_i n len
  obtain⟨a,b,c,d,rfl,rfl,rfl,rfl,f,e⟩:=Rb e
  split at e
  ·rename_i s L ro heq
   obtain⟨q,e⟩:=Zr.1 e
   cases e
   simp only[Bool.and_eq_true] at q
   obtain⟨⟨⟨q1,q2⟩,q3⟩,q4⟩:=q
   obtain rfl:=Nat.eq_of_beq_eq_true q1
   obtain rfl:=Nat.eq_of_beq_eq_true q2
   have q3:=Nat.eq_of_beq_eq_true q3
   have q4:=List.all_eq_true.1 q4
   have F:=Yh f
   obtain⟨g1,g2,g3,g4,g5,g6,g7,g8,g9,g10,g11⟩:=F
   refine Zv.tidy ⟨Tryz.f116,Tryz.func116,by kernel_rfl,by decide⟩ fun tidy=>?_
   have l1:=tidy _ _ heq
   refine Wo rfl ?_
   rcases L with _|⟨r0,_|⟨r1,_|⟨r2,_|⟨r3,_|⟨r4,L⟩⟩⟩⟩⟩
   ·simp only[List.length_nil] at q3; omega
   rotate_right
   ·simp only[List.length_cons] at q3; omega
   all_goals
    simp only[List.length_cons,List.length_nil] at q3
    subst q3
    obtain⟨x0,y0,z0,rfl,a1,a2,a3,a4,a5,a6⟩:=Xr (q4 r0 (by simp))
    try obtain⟨x1,y1,z1,rfl,b1,b2,b3,b4,b5,b6⟩:=Xr (q4 r1 (by simp))
    try obtain⟨x2,y2,z2,rfl,c1,c2,c3,c4,c5,c6⟩:=Xr (q4 r2 (by simp))
    try obtain⟨x3,y3,z3,rfl,d1,d2,d3,d4,d5,d6⟩:=Xr (q4 r3 (by simp))
    refine Jd Hh Tryz.f116 ?_
    have Jf:=Uq @f @heq
    repeat (first|apply Zp|apply Yk|apply Yt|apply Z6|apply Oe|apply Yb|refine Goes.Zn Ld ?_|refine Zy Hh (EY Za (Zuc Hh)) Ld ?_)
    exact⟨_,_,Zj,rfl,fun m hm=>by exact F4⟩
  ·cases e
 ·cases e
end
def Gn:List Nat:=List.replicate 256 0
def De (ns:List Nat):List Nat:=Jh ns 252 (Vg ns)
abbrev Oi:=Nat × Nat × Nat
def O9 (d:Oi):List C:=[.int .i64 (d.1:Int),.int .i64 (d.2.1:Int),.int .i64 (d.2.2:Int)]
def Fh:List Oi→Nat→List Nat→List Nat
 | [],_,x=>x
 | d :: D,i,x=>Fh D (i+8) (Zja x i d.1 d.2.1 d.2.2)
def getD (ns:List Nat) (i:Nat):Oi:=(Bw ns i,Bw ns (i+2),Bw ns (i+4))
def Be (ns:List Nat):Nat→Nat→List Oi
 | 0,_=>[]
 | k+1,i=>getD ns i :: Be ns k (i+8)
theorem zPg:List.replicate 256 (C.int .u8 0)=pgL Gn:=by kernel_rfl
theorem Zkw:Gn.length=256:=by kernel_rfl
theorem Zh6:∀ D:List Oi,(D.map O9).all (fun l=>l.all C.flat)=true
 | []=>rfl
 | _ :: D=>Zh6 D
theorem Zrh:(∀ ns:List Nat,(pgL ns).length=ns.length)∧(∀ (ns:List Nat) (i v:Nat),(Bp ns i v).length=ns.length)∧(∀ (ns:List Nat) (i v:Nat),(Jh ns i v).length=ns.length)∧(∀ (ns:List Nat) (a b c d:Nat),(Zlw ns a b c d).length=ns.length)∧(∀ (ns:List Nat) (i a b c:Nat),(Zja ns i a b c).length=ns.length):=⟨Da,Zau,Zav,Zq2,Zjb⟩
theorem Z00 {ns:List Nat} (h:ns.length≤256∧256≤ns.length):Zm 256 [pgL ns] 0 256=some (pgL ns):=Za2 (by rw[Da]; omega)
theorem Z55 {ns:List Nat} {x:List C} (h:(ns.length≤256∧256≤ns.length)∧x.length≤256∧256≤x.length):Z9 256 [x] 0 (pgL ns)=some [pgL ns]:=Xd (by rw[Da]; omega)
theorem rd4 (a b c d:C):Zm 4 [[a,b,c,d]] 0 4=some [a,b,c,d]:=rfl
theorem rd30 (x y z:C) (L:List (List C)):Zm 3 ([x,y,z] :: L) 0 3=some [x,y,z]:=rfl
theorem rd31 (r0:List C) (x y z:C) (L:List (List C)):Zm 3 (r0 :: [x,y,z] :: L) 3 3=some [x,y,z]:=rfl
theorem rd32 (r0 r1:List C) (x y z:C) (L:List (List C)):Zm 3 (r0 :: r1 :: [x,y,z] :: L) 6 3=some [x,y,z]:=rfl
theorem rd33 (r0 r1 r2:List C) (x y z:C) (L:List (List C)):Zm 3 (r0 :: r1 :: r2 :: [x,y,z] :: L) 9 3=some [x,y,z]:=rfl
theorem wr30 (x y z a b c:C) (L:List (List C)):Z9 3 ([x,y,z] :: L) 0 [a,b,c]=some ([a,b,c] :: L):=rfl
theorem wr31 (r0:List C) (x y z a b c:C) (L:List (List C)):Z9 3 (r0 :: [x,y,z] :: L) 3 [a,b,c]=some (r0 :: [a,b,c] :: L):=rfl
theorem wr32 (r0 r1:List C) (x y z a b c:C) (L:List (List C)):Z9 3 (r0 :: r1 :: [x,y,z] :: L) 6 [a,b,c]=some (r0 :: r1 :: [a,b,c] :: L):=rfl
theorem wr33 (r0 r1 r2:List C) (x y z a b c:C) (L:List (List C)):Z9 3 (r0 :: r1 :: r2 :: [x,y,z] :: L) 9 [a,b,c]=some (r0 :: r1 :: r2 :: [a,b,c] :: L):=rfl
def Z62 (a b c d:Nat):List Nat:=De (Jh (Zlw (Bp (Bp (Jh Gn 0 827216465) 4 1) 6 256) a b c d) 16 0)
noncomputable def Z65:Kn1:=fun args h=>match args with
 | [.g [.int .i64 a,.int .i64 b,.int .i64 c,.int .i64 d,.int .u32 z]]=>Qf a b c d fun a b c d=>Yp (decide (z=0)&&Ec (h.get 0)) (some (.tup [.g (pgL (Z62 a b c d)),.c (.int .i64 0)],h))
 | _=>none
attribute [go_sem] Z65
section
variable (Hh:Hearts K Tryz.prog)
include Hh
end
end Go.Proofs.YtdmendgkbikkaaaGreatDoor
