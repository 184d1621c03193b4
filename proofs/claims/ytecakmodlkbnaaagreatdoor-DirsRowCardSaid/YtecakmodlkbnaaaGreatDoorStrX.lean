/- super: geometries and descriptors handed on. -/
import Derived.Test.YtecakmodlkbnaaaGreatDoorPge
import Derived.Test.YtecakmodlkbnaaaGreatDoorCrcX
import Derived.KernelRfl
import Derived.Test.YtecakmodlkbnaaaGreatDoorIbk
import Derived.Test.YtecakmodlkbnaaaGreatDoorTxn2
import Derived.Test.YtecakmodlkbnaaaGreatDoorLay
import Derived.Test.YtecakmodlkbnaaaGreatDoorEvC
set_option linter.unusedSimpArgs false
set_option linter.unusedVariables false
set_option linter.unusedSectionVars false
set_option maxRecDepth 100000
set_option maxHeartbeats 4000000
namespace Go.Proofs.YtecakmodlkbnaaaGreatDoor
open Go.Ev
theorem ty108:K.types.get 108=some ti108:=by kernel_rfl
theorem sz108:ti108.size=1:=by rfl
theorem ag108:ti108.agg=false:=by rfl
theorem de108:ti108.desc=(.slice 117):=by rfl
theorem ze108:ti108.zero=(.c (.snil)):=by rfl
theorem by108:ti108.bytes=24:=by rfl
theorem el108:Jj K 108=some ti117:=by kernel_rfl
theorem ty117:K.types.get 117=some ti117:=by kernel_rfl
theorem sz117:ti117.size=3:=by rfl
theorem ag117:ti117.agg=true:=by rfl
theorem fo117_0:Zt K 117 0=some (0,ti3):=by kernel_rfl
theorem fo117_1:Zt K 117 1=some (1,ti3):=by kernel_rfl
theorem fo117_2:Zt K 117 2=some (2,ti3):=by kernel_rfl
theorem bu117 (ps:List (Nat × W)):Yo K 117 (some ps)=gW (Yd K 117 ps ti117.zero.cells):=by kernel_rfl
theorem ze117:ti117.zero=(.g ([.int .i64 0,.int .i64 0,.int .i64 0])):=by rfl
theorem by117:ti117.bytes=24:=by rfl
theorem ty129:K.types.get 129=some ti129:=by kernel_rfl
theorem sz129:ti129.size=5:=by rfl
theorem ag129:ti129.agg=true:=by rfl
theorem fo129_0:Zt K 129 0=some (0,ti23):=by kernel_rfl
theorem fo129_1:Zt K 129 1=some (4,ti36):=by kernel_rfl
theorem bu129 (ps:List (Nat × W)):Yo K 129 (some ps)=gW (Yd K 129 ps ti129.zero.cells):=by kernel_rfl
theorem ze129:ti129.zero=(.g ([.int .i64 0,.int .i64 0,.int .i64 0,.int .i64 0,.int .u32 0])):=by rfl
theorem by129:ti129.bytes=40:=by rfl
theorem ty249:K.types.get 249=some ti249:=by kernel_rfl
theorem sz249:ti249.size=1:=by rfl
theorem ag249:ti249.agg=false:=by rfl
theorem de249:ti249.desc=(.int .u64):=by rfl
theorem ze249:ti249.zero=(.c (.int .u64 0)):=by rfl
theorem by249:ti249.bytes=8:=by rfl
theorem ke249 (k:IntKind) (n:Int):Fb K 20 249 (.c (.int k n))=true:=by kernel_rfl
attribute [go_sem] ty108 sz108 ag108 de108 ze108 by108 el108 ty117 sz117 ag117 fo117_0 fo117_1 fo117_2 bu117 ze117 by117 ty129 sz129 ag129 fo129_0 fo129_1 bu129 ze129 by129 ty249 sz249 ag249 de249 ze249 by249 ke249
theorem rs113:Tryz.f113.results.toList=[]:=rfl
theorem rs116:Tryz.f116.results.toList=[]:=rfl
theorem rs158:Tryz.f158.results.toList=[.cell 4 117]:=rfl
theorem rs110:Tryz.f110.results.toList=[.tmp 2]:=rfl
theorem rs58:Tryz.f58.results.toList=[.cell 2 99,.tmp 3]:=rfl
theorem rs115:Tryz.f115.results.toList=[.tmp 4]:=rfl
attribute [go_sem] rs113 rs116 rs158 rs110 rs58 rs115
def Zjo (ns:List Nat) (a b c d:Nat):List Nat:=U6 (U6 (U6 (U6 ns 8 a) 10 b) 12 c) 14 d
def Zno (ns:List Nat) (i a b c:Nat):List Nat:=U6 (U6 (U6 ns i a) (i+2) b) (i+4) c
theorem Zva (ns:List Nat) (i v:Nat):pgL (U6 ns i v)=((pgL ns).set i (.int .u8 ((v % 256:Nat):Int))).set (i+1) (.int .u8 ((v / 256 % 256:Nat):Int)):=by rw[Lb,Lb]; rfl
theorem Zul (ns:List Nat) (a b c d:Nat):pgL (Zjo (ns.map (· % 256)) a b c d)=pgL (Zjo ns a b c d):=by simp only[Zjo,Zva,Zmb]
theorem Zvn (ns:List Nat) (i a b c:Nat):pgL (Zno (ns.map (· % 256)) i a b c)=pgL (Zno ns i a b c):=by simp only[Zno,Zva,Zmb]
theorem Zn1 (ns:List Nat) (a b c d:Nat):(Zjo ns a b c d).length=ns.length:=by simp only[Zjo,Y0]
theorem Zn8 (ns:List Nat) (i a b c:Nat):(Zno ns i a b c).length=ns.length:=by simp only[Zno,Y0]
noncomputable def Zn0:Kn1:=fun args h=>match args with
 | [.g [.int .i64 a,.int .i64 b,.int .i64 c,.int .i64 d],.c (.fn f [some (p,0)] [])]=>Zax a b c d fun a b c d=>(Ei h p).bind fun x=>Y8 (Nat.beq f 112) (some (.tup [],h.put p (.row 256 [pgL (Zjo (unN x) a b c d)] false)))
 | _=>none
noncomputable def Zg2:Kn1:=fun args h=>match args with
 | [.c (.int .i64 i),.g [.int .i64 a,.int .i64 b,.int .i64 c],.c (.fn f [some (p,0)] [])]=>(Uf i).bind fun i=>(Uf a).bind fun a=>(Uf b).bind fun b=>(Uf c).bind fun c=>(Ei h p).bind fun x=>Y8 (Nat.beq f 112&&decide (i+6≤256)&&decide (a<65536)&&decide (b<65536)&&decide (c<65536)) (some (.tup [],h.put p (.row 256 [pgL (Zno (unN x) i a b c)] false)))
 | _=>none
noncomputable def Ziw:Kn1:=fun args h=>match args with
 | [.c (.int .i64 i),.c (.fn f [some (p,0)] [])]=>(Uf i).bind fun i=>(Ei h p).bind fun x=>Y8 (Nat.beq f 159&&decide (i+6≤256)) (some (.w (.g [.int .i64 ((Oi (unN x) i:Nat):Int),.int .i64 ((Oi (unN x) (i+2):Nat):Int),.int .i64 ((Oi (unN x) (i+4):Nat):Int)]),h))
 | _=>none
noncomputable def Zea:Kn1:=fun args h=>match args with
 | [.g [.int .i64 a,.int .i64 b,.int .i64 c,.int .i64 d,.int .u32 z]]=>Zax a b c d fun _ _ _ _=>Y8 (decide (z=0)) (some (.w (.c (.bool true)),h))
 | _=>none
def Z4p (dt ino:Nat):List C→Bool
 | [.int .i64 x,.int .i64 y,.int .i64 z]=>decide (0≤x)&&decide (x≤(dt:Int))&&decide (0≤y)&&decide (y≤(ino:Int))&&decide (0≤z)&&decide (z≤(ino:Int) - y)
 | _=>false
theorem Zab {dt ino:Nat} {l:List C} (e:Z4p dt ino l=true):∃ x y z:Int,l=[.int .i64 x,.int .i64 y,.int .i64 z]∧0≤x∧x≤(dt:Int)∧0≤y∧y≤(ino:Int)∧0≤z∧z≤(ino:Int) - y:=by
 unfold Z4p at e
 split at e
 ·simp only[Bool.and_eq_true,decide_eq_true_eq] at e
  obtain⟨⟨⟨⟨⟨e1,e2⟩,e3⟩,e4⟩,e5⟩,e6⟩:=e
  exact⟨_,_,_,rfl,e1,e2,e3,e4,e5,e6⟩
 ·cases e
noncomputable def Zsy:Kn1:=fun args h=>match args with
 | [.g [.int .i64 a,.int .i64 b,.int .i64 c,.int .i64 d],.c (.slice n 0 len 3)]=>Zax a b c d fun a b c _=>match h.get n with
  | some (.row s L _)=>Y8 (Nat.beq s 3&&Nat.beq len a&&Nat.beq L.length a&&L.all (Z4p (b - 2 - c / 4) c)) (some (.w (.c (.bool true)),h))
  | _=>none
 | _=>none
attribute [go_sem] Zn0 Zg2 Ziw Zea Zsy Zul Zvn Zn1 Zn8 Z4p
theorem Z6l (p o l:Nat):Y7 K 108 (.c (.slice p o l 3))=true:=by kernel_rfl
attribute [go_sem] Z6l
theorem Z34 {b:Nat} (ns:List Nat):Zx6 b (.row 256 [pgL ns] false):=Zl8 fun τ _=>by
 show [(pgL ns).map (C.ren τ)]=_
 rw[Ub (fun a ha=>C.Jl ha _) (Tc ns)]
section
variable (Hh:Hearts K Tryz.prog)
include Hh
theorem Zq8 {args:List W} {h h':Go.Ev.H} {v:V} (e:Zn0 args h=some (v,h')):Zg 113 args h v h':=by
 unfold Zn0 at e
 split at e
 ·rename_i p
  obtain⟨a,b,c,d,rfl,rfl,rfl,rfl,f,e⟩:=Oh e
  obtain⟨g1,g2,g3,g4,g5,g6,g7,g8,g9,g10,g11⟩:=Zv f
  obtain⟨x,hx,e⟩:=Zo e
  obtain⟨ns,rfl,hl,hp⟩:=Js hx
  obtain⟨b1,e⟩:=Zu.1 e
  cases e
  obtain rfl:=Nat.eq_of_beq_eq_true b1
  rw[Od,Zul]
  unfold Zjo
  refine Zy.tidy ⟨Tryz.f113,Tryz.func113,by kernel_rfl,by decide⟩ fun tidy=>?_
  have lp:=tidy _ _ hp
  have pp:=@H.Zal
  obtain⟨v,h',cc,rfl,hk⟩:∃ v h',Zg 113 [.g [.int .i64 (a:Int),.int .i64 (b:Int),.int .i64 (c:Int),.int .i64 (d:Int)],.c (.fn 112 [some (p,0)] [])] h v h'∧v=.tup []∧∀ m,m<h.next→h'.get m=(h.put p (.row 256 [pgL (U6 (U6 (U6 (U6 ns 8 a) 10 b) 12 c) 14 d)] false)).get m:=by
   refine Yg Hh Tryz.f113 ?_
   have Jf:=Jb @hp @hl @pp
   repeat (first|apply Zk|refine Zq Hh (EY Za (Zgx Hh)) Zuh ?_)
   exact⟨_,_,Zc,rfl,fun m hm=>by exact Ry⟩
  exact cc.settle ((R9.refl tidy).put lp (Z34 _)) (Zfr.flat rfl) hk
 ·cases e
theorem Zqo {args:List W} {h h':Go.Ev.H} {v:V} (e:Zg2 args h=some (v,h')):Zg 116 args h v h':=by
 unfold Zg2 at e
 split at e
 ·rename_i p
  obtain⟨i,hi,e⟩:=Zo e
  obtain⟨a,ha,e⟩:=Zo e
  obtain⟨b,hb,e⟩:=Zo e
  obtain⟨c,hc,e⟩:=Zo e
  obtain⟨x,hx,e⟩:=Zo e
  obtain⟨ns,rfl,hl,hp⟩:=Js hx
  obtain⟨q,e⟩:=Zu.1 e
  simp only[Bool.and_eq_true,decide_eq_true_eq] at q
  obtain⟨⟨⟨⟨q1,q2⟩,q3⟩,q4⟩,q5⟩:=q
  cases e
  obtain rfl:=Nat.eq_of_beq_eq_true q1
  rw[Z9 hi,Z9 ha,Z9 hb,Z9 hc,Od,Zvn]
  have e2:(i:Int)+2=((i+2:Nat):Int):=rfl
  have e4:(i:Int)+4=((i+4:Nat):Int):=rfl
  unfold Zno
  refine Zy.tidy ⟨Tryz.f116,Tryz.func116,by kernel_rfl,by decide⟩ fun tidy=>?_
  have lp:=tidy _ _ hp
  have pp:=@H.Zal
  obtain⟨v,h',cc,rfl,hk⟩:∃ v h',Zg 116 [.c (.int .i64 (i:Int)),.g [.int .i64 (a:Int),.int .i64 (b:Int),.int .i64 (c:Int)],.c (.fn 112 [some (p,0)] [])] h v h'∧v=.tup []∧∀ m,m<h.next→h'.get m=(h.put p (.row 256 [pgL (U6 (U6 (U6 ns i a) (i+2) b) (i+4) c)] false)).get m:=by
   refine Yg Hh Tryz.f116 ?_
   have Jf:=U1 @hp @hl @e2 @e4 @pp
   repeat (first|apply Zk|refine Zq Hh (EY Za (Zgx Hh)) Zuh ?_)
   exact⟨_,_,Zc,rfl,fun m hm=>by exact Ry⟩
  exact cc.settle ((R9.refl tidy).put lp (Z34 _)) (Zfr.flat rfl) hk
 ·cases e
theorem Zp6 {args:List W} {h h':Go.Ev.H} {v:V} (e:Ziw args h=some (v,h')):Zg 158 args h v h':=by
 unfold Ziw at e
 split at e
 ·rename_i p
  obtain⟨i,hi,e⟩:=Zo e
  obtain⟨x,hx,e⟩:=Zo e
  obtain⟨ns,rfl,hl,hp⟩:=Js hx
  obtain⟨q,e⟩:=Zu.1 e
  simp only[Bool.and_eq_true,decide_eq_true_eq] at q
  obtain⟨q1,q2⟩:=q
  cases e
  obtain rfl:=Nat.eq_of_beq_eq_true q1
  rw[Z9 hi]
  simp only[Od,Qn]
  have e2:(i:Int)+2=((i+2:Nat):Int):=rfl
  have e4:(i:Int)+4=((i+4:Nat):Int):=rfl
  refine Zy.tidy ⟨Tryz.f158,Tryz.func158,by kernel_rfl,by decide⟩ fun tidy=>?_
  have lp:=tidy _ _ hp
  refine Gt rfl ?_
  refine Yg Hh Tryz.f158 ?_
  have Jf:=Uq @hp @hl @e2 @e4
  repeat (first|apply Zk|apply Z0|refine Zq Hh (EY Za (Z1t Hh)) Z50 ?_)
  exact⟨_,_,Zc,rfl,fun m hm=>by exact Ry⟩
 ·cases e
theorem Zmu {args:List W} {h h':Go.Ev.H} {v:V} (e:Zea args h=some (v,h')):Zg 110 args h v h':=by
 unfold Zea at e
 split at e
 ·obtain⟨a,b,c,d,rfl,rfl,rfl,rfl,f,e⟩:=Oh e
  obtain⟨g1,g2,g3,g4,g5,g6,g7,g8,g9,g10,g11⟩:=Zv f
  obtain⟨q,e⟩:=Zu.1 e
  cases e
  obtain rfl:=of_decide_eq_true q
  have b1:a * c≤4 * 64:=Nat.mul_le_mul (by omega) (by omega)
  refine Gt rfl ?_
  refine Yg Hh Tryz.f110 ?_
  have Jf:=@f
  repeat (first|apply Zk|apply Z0|refine Zq Hh (EY Za (G7 Hh)) J5 ?_|refine Ed Hh (EY Za (G7 Hh)) Zci ?_)
  exact⟨_,_,Zc,rfl,fun m hm=>by exact Ry⟩
 ·cases e
theorem Zkz {args:List W} {h h':Go.Ev.H} {v:V} (e:Zsy args h=some (v,h')):Zg 115 args h v h':=by
 unfold Zsy at e
 split at e
 ·rename_i n len
  obtain⟨a,b,c,d,rfl,rfl,rfl,rfl,f,e⟩:=Oh e
  split at e
  ·rename_i s L ro heq
   obtain⟨q,e⟩:=Zu.1 e
   cases e
   simp only[Bool.and_eq_true] at q
   obtain⟨⟨⟨q1,q2⟩,q3⟩,q4⟩:=q
   obtain rfl:=Nat.eq_of_beq_eq_true q1
   obtain rfl:=Nat.eq_of_beq_eq_true q2
   have q3:=Nat.eq_of_beq_eq_true q3
   have q4:=List.all_eq_true.1 q4
   have F:=Zv f
   obtain⟨g1,g2,g3,g4,g5,g6,g7,g8,g9,g10,g11⟩:=F
   refine Zy.tidy ⟨Tryz.f115,Tryz.func115,by kernel_rfl,by decide⟩ fun tidy=>?_
   have l1:=tidy _ _ heq
   refine Gt rfl ?_
   rcases L with _|⟨r0,_|⟨r1,_|⟨r2,_|⟨r3,_|⟨r4,L⟩⟩⟩⟩⟩
   ·simp only[List.length_nil] at q3; omega
   rotate_right
   ·simp only[List.length_cons] at q3; omega
   all_goals
    simp only[List.length_cons,List.length_nil] at q3
    subst q3
    obtain⟨x0,y0,z0,rfl,a1,a2,a3,a4,a5,a6⟩:=Zab (q4 r0 (by simp))
    try obtain⟨x1,y1,z1,rfl,b1,b2,b3,b4,b5,b6⟩:=Zab (q4 r1 (by simp))
    try obtain⟨x2,y2,z2,rfl,c1,c2,c3,c4,c5,c6⟩:=Zab (q4 r2 (by simp))
    try obtain⟨x3,y3,z3,rfl,d1,d2,d3,d4,d5,d6⟩:=Zab (q4 r3 (by simp))
    refine Yg Hh Tryz.f115 ?_
    have Jf:=Yy @f @heq
    repeat (first|apply Zk|apply Yt|apply Je|apply Zw|apply Ux|apply Z0|refine Goes.Zi Sk ?_|refine Zq Hh (EY Za (Zei Hh)) Sk ?_)
    exact⟨_,_,Zc,rfl,fun m hm=>by exact Ry⟩
  ·cases e
 ·cases e
end
def O0:List Nat:=List.replicate 256 0
def Gc (ns:List Nat):List Nat:=Jq ns 252 (Wy ns)
abbrev Oy:=Nat × Nat × Nat
def Uj (d:Oy):List C:=[.int .i64 (d.1:Int),.int .i64 (d.2.1:Int),.int .i64 (d.2.2:Int)]
def Fe:List Oy→Nat→List Nat→List Nat
 | [],_,x=>x
 | d :: D,i,x=>Fe D (i+8) (Zno x i d.1 d.2.1 d.2.2)
def getD (ns:List Nat) (i:Nat):Oy:=(Oi ns i,Oi ns (i+2),Oi ns (i+4))
def Bh (ns:List Nat):Nat→Nat→List Oy
 | 0,_=>[]
 | k+1,i=>getD ns i :: Bh ns k (i+8)
theorem zPg:List.replicate 256 (C.int .u8 0)=pgL O0:=by kernel_rfl
theorem Q8:O0.length=256:=by kernel_rfl
theorem Zem:∀ D:List Oy,(D.map Uj).all (fun l=>l.all C.flat)=true
 | []=>rfl
 | _ :: D=>Zem D
theorem Zk6:(∀ ns:List Nat,(pgL ns).length=ns.length)∧(∀ (ns:List Nat) (i v:Nat),(U6 ns i v).length=ns.length)∧(∀ (ns:List Nat) (i v:Nat),(Jq ns i v).length=ns.length)∧(∀ (ns:List Nat) (a b c d:Nat),(Zjo ns a b c d).length=ns.length)∧(∀ (ns:List Nat) (i a b c:Nat),(Zno ns i a b c).length=ns.length):=⟨Jy,Y0,Yh,Zn1,Zn8⟩
theorem Zw6 {ns:List Nat} (h:ns.length≤256∧256≤ns.length):Zn 256 [pgL ns] 0 256=some (pgL ns):=Fz (by rw[Jy]; omega)
theorem Z75 {ns:List Nat} {x:List C} (h:(ns.length≤256∧256≤ns.length)∧x.length≤256∧256≤x.length):Z4 256 [x] 0 (pgL ns)=some [pgL ns]:=Su (by rw[Jy]; omega)
theorem rd4 (a b c d:C):Zn 4 [[a,b,c,d]] 0 4=some [a,b,c,d]:=rfl
theorem rd30 (x y z:C) (L:List (List C)):Zn 3 ([x,y,z] :: L) 0 3=some [x,y,z]:=rfl
theorem rd31 (r0:List C) (x y z:C) (L:List (List C)):Zn 3 (r0 :: [x,y,z] :: L) 3 3=some [x,y,z]:=rfl
theorem rd32 (r0 r1:List C) (x y z:C) (L:List (List C)):Zn 3 (r0 :: r1 :: [x,y,z] :: L) 6 3=some [x,y,z]:=rfl
theorem rd33 (r0 r1 r2:List C) (x y z:C) (L:List (List C)):Zn 3 (r0 :: r1 :: r2 :: [x,y,z] :: L) 9 3=some [x,y,z]:=rfl
theorem wr30 (x y z a b c:C) (L:List (List C)):Z4 3 ([x,y,z] :: L) 0 [a,b,c]=some ([a,b,c] :: L):=rfl
theorem wr31 (r0:List C) (x y z a b c:C) (L:List (List C)):Z4 3 (r0 :: [x,y,z] :: L) 3 [a,b,c]=some (r0 :: [a,b,c] :: L):=rfl
theorem wr32 (r0 r1:List C) (x y z a b c:C) (L:List (List C)):Z4 3 (r0 :: r1 :: [x,y,z] :: L) 6 [a,b,c]=some (r0 :: r1 :: [a,b,c] :: L):=rfl
theorem wr33 (r0 r1 r2:List C) (x y z a b c:C) (L:List (List C)):Z4 3 (r0 :: r1 :: r2 :: [x,y,z] :: L) 9 [a,b,c]=some (r0 :: r1 :: r2 :: [a,b,c] :: L):=rfl
def Zyx (a b c d:Nat):List Nat:=Gc (Jq (Zjo (U6 (U6 (Jq O0 0 827216465) 4 1) 6 256) a b c d) 16 0)
noncomputable def Z8x:Kn1:=fun args h=>match args with
 | [.g [.int .i64 a,.int .i64 b,.int .i64 c,.int .i64 d,.int .u32 z]]=>Zax a b c d fun a b c d=>Y8 (decide (z=0)&&Bq (h.get 0)) (some (.tup [.g (pgL (Zyx a b c d)),.c (.int .i64 0)],h))
 | _=>none
attribute [go_sem] Z8x
theorem Zzb (a b c d:Nat):(Zyx a b c d).length=256:=by
 have zl:=Q8
 simp only[Zyx,Gc,Yh,Zn1,Y0,zl]
section
variable (Hh:Hearts K Tryz.prog)
include Hh
theorem Zvf {args:List W} {h h':Go.Ev.H} {v:V} (e:Z8x args h=some (v,h')):Zg 58 args h v h':=by
 unfold Z8x at e
 split at e
 ·rename_i z
  obtain⟨a,b,c,d,rfl,rfl,rfl,rfl,f,e⟩:=Oh e
  obtain⟨q,e⟩:=Zu.1 e
  cases e
  rw[Bool.and_eq_true] at q
  obtain rfl:=of_decide_eq_true q.1
  have hst:=G9 q.2
  unfold Zyx
  obtain⟨g1,g2,g3,g4,g5,g6,g7,g8,g9,g10,g11⟩:=Zv f
  obtain⟨Z,hZ⟩:∃ Z,O0=Z:=⟨_,rfl⟩
  have z0:=zPg
  have zl:=Q8
  rw[hZ] at z0 zl ⊢
  have r5:Zn 5 [[.int .i64 (a:Int),.int .i64 (b:Int),.int .i64 (c:Int),.int .i64 (d:Int),.int .u32 0]] 0 4=some [.int .i64 (a:Int),.int .i64 (b:Int),.int .i64 (c:Int),.int .i64 (d:Int)]:=rfl
  refine Zy.tidy ⟨Tryz.f58,Tryz.func58,by kernel_rfl,by decide⟩ fun tidy=>?_
  have l0:=tidy _ _ hst
  obtain⟨v,h',cc,ns,rfl,hl,hk⟩:∃ v h',Zg 58 [.g [.int .i64 (a:Int),.int .i64 (b:Int),.int .i64 (c:Int),.int .i64 (d:Int),.int .u32 0]] h v h'∧∃ ns,v=.tup [.g (pgL ns),.c (.int .i64 0)]∧ns=Gc (Jq (Zjo (U6 (U6 (Jq Z 0 827216465) 4 1) 6 256) a b c d) 16 0)∧∀ m,m<h.next→h'.get m=h.get m:=by
   refine Yg Hh Tryz.f58 ?_
   repeat (first|apply Zk|apply Zw|apply Z0|((first|apply Goes.Zi|apply Goes.ops2 fits Hh (EY (EY (EY (EY (EY (EY Za (Uy Hh)) (Zmu Hh)) (Zkr Hh)) (Zgx Hh)) (Zq8 Hh)) (Zku Hh))); · simp (maxSteps:=9^6) +decide (disch:=first|omega|(simp only[lens,Zk6]<;>omega)|decide) only [go_sem,Zm,simprocAttr,f,hst,z0,zl,r5,Zw6,Z75,read1,Yf]<;>rfl))
   exact⟨_,_,(by simp (maxSteps:=9^6) +decide (disch:=first|omega|(simp only[lens,Zk6]<;>omega)|decide) only [go_sem,Zm,simprocAttr,zl,Zw6]<;>rfl),_,rfl,(by simp only[Gc]),fun m hm=>by exact Yc⟩
  rw[←hl]
  exact cc.quiet (by simp only[V.flat,W.flat,List.all_cons,Tc]; rfl) hk
 ·cases e
end
end Go.Proofs.YtecakmodlkbnaaaGreatDoor
set_option maxRecDepth 100000
set_option maxHeartbeats 10000000
namespace Go.Proofs.YtecakmodlkbnaaaGreatDoor
open Go.Ev
theorem rs59:Tryz.f59.results.toList=[.cell 4 99,.tmp 5]:=rfl
attribute [go_sem] rs59
section
variable (Hh:Hearts K Tryz.prog)
include Hh
theorem Zw3 {a b c d n:Nat} {D:List Oy} {ro:Bool} (f:Ym a b c d=true) {h:Go.Ev.H} (hst:h.get 0=some Gf) (hn:h.get n=some (.row 3 (D.map Uj) ro)) (hD:D.length=a) (ok:∀ d∈D,d.1≤b - 2 - c / 4∧d.2.1≤c∧d.2.2+d.2.1≤c) :
  Zg 59 [.g [.int .i64 (a:Int),.int .i64 (b:Int),.int .i64 (c:Int),.int .i64 (d:Int)],.c (.slice n 0 a 3)] h (.tup [.g (pgL (Gc (Fe D 0 O0))),.c (.int .i64 0)]) h:=by
 obtain⟨g1,g2,g3,g4,g5,g6,g7,g8,g9,g10,g11⟩:=Zv f
 obtain⟨Z,hZ⟩:∃ Z,O0=Z:=⟨_,rfl⟩
 have z0:=zPg
 have zl:=Q8
 rw[hZ] at z0 zl ⊢
 refine Zy.tidy ⟨Tryz.f59,Tryz.func59,by kernel_rfl,by decide⟩ fun tidy=>?_
 have l0:=tidy _ _ hst
 have l1:=tidy _ _ hn
 refine Gt (by simp only[V.flat,W.flat,List.all_cons,Tc]; rfl) ?_
 rcases D with _|⟨⟨x0,y0,w0⟩,_|⟨⟨x1,y1,w1⟩,_|⟨⟨x2,y2,w2⟩,_|⟨⟨x3,y3,w3⟩,_|⟨r4,D⟩⟩⟩⟩⟩
 ·simp only[List.length_nil] at hD; omega
 rotate_right
 ·simp only[List.length_cons] at hD; omega
 all_goals
  simp only[List.length_cons,List.length_nil,Nat.reduceAdd] at hD
  subst hD
  simp only[List.map_cons,List.map_nil,Uj] at hn
  have o0:=ok (x0,y0,w0) (by simp)
  try have o1:=ok (x1,y1,w1) (by simp)
  try have o2:=ok (x2,y2,w2) (by simp)
  try have o3:=ok (x3,y3,w3) (by simp)
  simp only at o0
  try simp only at o1
  try simp only at o2
  try simp only at o3
  refine Yg Hh Tryz.f59 ?_
  repeat (first|apply Zk|apply Yt|apply Je|apply Zw|apply Ux|apply Z0|((first|apply Goes.Zi|apply Goes.ops2 fits Hh (EY (EY (EY (EY Za (Uy Hh)) (Zkz Hh)) (Zqo Hh)) (Zku Hh))); · simp (maxSteps:=9^6) +decide (disch:=first|omega|(simp only[lens,Zk6]<;>omega)|decide) only [go_sem,Zm,simprocAttr,f,hst,hn,List.all_cons,List.all_nil,Bool.and_true,Bool.true_and,z0,zl,Zw6,Z75,rd4,rd30,rd31,rd32,rd33,Yf,Zr,J3,read1]<;>rfl))
  exact⟨_,_,(by simp (maxSteps:=9^6) +decide (disch:=first|omega|(simp only[lens,Zk6]<;>omega)|decide) only [go_sem,Zm,simprocAttr,zl,Zw6]<;>rfl),(by simp only[Gc,Fe,Nat.reduceAdd]),fun m hm=>by exact Yc⟩
end
theorem rs104:Tryz.f104.results.toList=[.tmp 4,.tmp 5]:=rfl
attribute [go_sem] rs104
section
variable (Hh:Hearts K Tryz.prog)
include Hh
theorem Zyb {a b c d:Nat} {ns:List Nat} (f:Ym a b c d=true) {h:Go.Ev.H} (hst:h.get 0=some Gf) (hl:ns.length=256) (s1:Yk ns 252=Wy ns) (s2:Bb ns (8 * a) (252 - 8 * a)=true) (s3:∀ k,k<a→Bb ns (8 * k+6) 2=true) (ok:∀ d∈Bh ns a 0,d.1≤b - 2 - c / 4∧d.2.1≤c∧d.2.2+d.2.1≤c) :
  Zg 104 [.g [.int .i64 (a:Int),.int .i64 (b:Int),.int .i64 (c:Int),.int .i64 (d:Int)],.g (pgL ns)] h (.tup [.c (.slice h.next 0 a 3),.c (.int .i64 0)]) (h.new (.row 3 ((Bh ns a 0).map Uj) false)):=by
 obtain⟨g1,g2,g3,g4,g5,g6,g7,g8,g9,g10,g11⟩:=Zv f
 refine Zy.tidy ⟨Tryz.f104,Tryz.func104,by kernel_rfl,by decide⟩ fun tidy=>?_
 have l0:=tidy _ _ hst
 have t0:Bb ns 6 2=true:=s3 0 (by omega)
 have t1:1<a→Bb ns 14 2=true:=s3 1
 have t2:2<a→Bb ns 22 2=true:=s3 2
 have t3:3<a→Bb ns 30 2=true:=s3 3
 obtain⟨v,h',cc,n,rfl,n1,n2,n3,hk⟩:∃ v h',Zg 104 [.g [.int .i64 (a:Int),.int .i64 (b:Int),.int .i64 (c:Int),.int .i64 (d:Int)],.g (pgL ns)] h v h'∧∃ n,v=.tup [.c (.slice n 0 a 3),.c (.int .i64 0)]∧h.next≤n∧n<h'.next∧h'.get n=some (.row 3 ((Bh ns a 0).map Uj) false)∧∀ m,m<h.next→h'.get m=h.get m:=by
  obtain rfl|rfl|rfl|rfl:a=1∨a=2∨a=3∨a=4:=by omega
  all_goals
   simp only[Bh,getD,List.forall_mem_cons,Nat.reduceAdd,Nat.reduceMul,Nat.reduceSub] at ok s2
   obtain⟨o0,ok⟩:=ok
   try obtain⟨o1,ok⟩:=ok
   try obtain⟨o2,ok⟩:=ok
   try obtain⟨o3,ok⟩:=ok
   refine Yg Hh Tryz.f104 ?_
   repeat (first|apply Zk|apply Yt|apply Je|apply Zw|apply Ux|apply Z0|((first|apply Goes.Zi|apply Goes.ops2 fits Hh (EY (EY (EY (EY (EY Za (Uy Hh)) (Zp0 Hh)) (Zl9 Hh)) (Zp6 Hh)) (Zkz Hh))); · simp (maxSteps:=9^6) +decide (disch:=first|omega|(simp only[lens,Zk6]<;>omega)|decide) only [go_sem,Zm,simprocAttr,f,hst,hl,List.all_cons,List.all_nil,Bool.and_true,Bool.true_and,s1,s2,t0,t1,t2,t3,Zw6,Z75,rd4,rd30,rd31,rd32,rd33,wr30,wr31,wr32,wr33,List.replicate_succ,List.replicate_zero,Yf,Zr,J3,Uk,Y3,read1]<;>rfl))
   exact⟨_,_,(by simp (maxSteps:=9^6) +decide (disch:=first|omega|(simp only[lens,Zk6]<;>omega)|decide) only [go_sem,Zm,simprocAttr,hl,Zw6]<;>rfl),_,rfl,(by first|omega|(simp only[H.Zb,H.Zd]<;>omega)),(by first|omega|(simp only[H.Zb,H.Zd]<;>omega)),by simp (maxSteps:=9^6) +decide (disch:=first|omega|(simp only[lens]<;>omega)|decide) only [go_sem,Zm,simprocAttr,Bh,getD,Uj,List.map_cons,List.map_nil]<;>rfl,fun m hm=>by exact Yc⟩
 exact Zy.row cc n1 n3 rfl (Zem _) n2 hk
end
end Go.Proofs.YtecakmodlkbnaaaGreatDoor
set_option maxRecDepth 100000
namespace Go.Proofs.YtecakmodlkbnaaaGreatDoor
open Go.Ev
def Zv9:List C→Option Oy
 | [.int .i64 x,.int .i64 y,.int .i64 z]=>(Uf x).bind fun x=>(Uf y).bind fun y=>(Uf z).bind fun z=>some (x,y,z)
 | _=>none
def Zzo:List (List C)→Option (List Oy)
 | []=>some []
 | r :: L=>(Zv9 r).bind fun d=>(Zzo L).bind fun D=>some (d :: D)
theorem Z2b (d:Oy):Zv9 (Uj d)=some d:=by simp only[Zv9,Uj,Zhk,Option.bind_some]
theorem Zkd:∀ D:List Oy,Zzo (D.map Uj)=some D
 | []=>rfl
 | d :: D=>by simp only[List.map_cons,Zzo,Z2b,Option.bind_some,Zkd D]
theorem Zxc {r:List C} {d:Oy} (e:Zv9 r=some d):r=Uj d:=by
 unfold Zv9 at e
 split at e
 ·obtain⟨x,hx,e⟩:=Zo e
  obtain⟨y,hy,e⟩:=Zo e
  obtain⟨z,hz,e⟩:=Zo e
  cases e
  rw[Z9 hx,Z9 hy,Z9 hz]
  rfl
 ·cases e
theorem Zkp:∀ {L:List (List C)} {D:List Oy},Zzo L=some D→L=D.map Uj
 | [],D,e=>by cases e; rfl
 | r :: L,D,e=>by
  obtain⟨d,hd,e⟩:=Zo (show (Zv9 r).bind _=some D from e)
  obtain⟨D',hD,e⟩:=Zo e
  cases e
  rw[List.map_cons,←Zxc hd,←Zkp hD]
def Xy (dt ino:Nat) (d:Oy):Bool:=Nat.ble d.1 dt&&Nat.ble d.2.1 ino&&Nat.ble (d.2.2+d.2.1) ino
theorem Zak {dt ino:Nat} {d:Oy} (e:Xy dt ino d=true):d.1≤dt∧d.2.1≤ino∧d.2.2+d.2.1≤ino:=by
 simp only[Xy,Bool.and_eq_true] at e
 exact⟨Nat.le_of_ble_eq_true e.1.1,Nat.le_of_ble_eq_true e.1.2,Nat.le_of_ble_eq_true e.2⟩
noncomputable def Z85:Kn1:=fun args h=>match args with
 | [.g [.int .i64 a,.int .i64 b,.int .i64 c,.int .i64 d],.c (.slice n 0 len 3)]=>Zax a b c d fun a b c _=>match h.get n with
  | some (.row s L _)=>(Zzo L).bind fun D=>Y8 (Nat.beq s 3&&Nat.beq len a&&Nat.beq D.length a&&D.all (Xy (b - 2 - c / 4) c)&&Bq (h.get 0)) (some (.tup [.g (pgL (Gc (Fe D 0 O0))),.c (.int .i64 0)],h))
  | _=>none
 | _=>none
def Nq (ns:List Nat):Nat→Nat→Bool
 | 0,_=>true
 | k+1,i=>Bb ns (i+6) 2&&Nq ns k (i+8)
theorem Zql {ns:List Nat}:∀ {a i:Nat},Nq ns a i=true→∀ k,k<a→Bb ns (8 * k+i+6) 2=true
 | 0,_,_,k,hk=>by omega
 | a+1,i,e,k,hk=>by
  have e':(Bb ns (i+6) 2&&Nq ns a (i+8))=true:=e
  rw[Bool.and_eq_true] at e'
  cases k with
  | zero=>rw[Nat.mul_zero,Nat.zero_add]; exact e'.1
  | succ k=>have:=Zql e'.2 k (by omega); rwa [show 8 * (k+1)+i+6=8 * k+(i+8)+6 by omega]
def goodD (ns:List Nat) (a b c:Nat):Bool:=Nat.beq (Yk ns 252) (Wy ns)&&Bb ns (8 * a) (252 - 8 * a)&&Nq ns a 0&&(Bh ns a 0).all (Xy (b - 2 - c / 4) c)
theorem Fp (ns:List Nat):∀ a i,Bh (ns.map (· % 256)) a i=Bh ns a i
 | 0,_=>rfl
 | a+1,i=>by simp only[Bh,getD,Qn,Fp ns a]
theorem Zkk (ns:List Nat):∀ a i,Nq (ns.map (· % 256)) a i=Nq ns a i
 | 0,_=>rfl
 | a+1,i=>by simp only[Nq,Zc7,Zkk ns a]
theorem Lm (ns:List Nat) (a b c:Nat):goodD (ns.map (· % 256)) a b c=goodD ns a b c:=by simp only[goodD,R6,Zae,Zc7,Zkk,Fp]
noncomputable def Z9w:Kn1:=fun args h=>match args with
 | [.g [.int .i64 a,.int .i64 b,.int .i64 c,.int .i64 d],.g x]=>Zax a b c d fun a b c _=>Y8 (Zdm x&&Nat.beq x.length 256&&goodD (unN x) a b c&&Bq (h.get 0)) (some (.tup [.c (.slice h.next 0 a 3),.c (.int .i64 0)],h.new (.row 3 ((Bh (unN x) a 0).map Uj) false)))
 | _=>none
attribute [go_sem] Z85 Z9w Zkd Fp Lm
section
variable (Hh:Hearts K Tryz.prog)
include Hh
theorem Zgf {args:List W} {h h':Go.Ev.H} {v:V} (e:Z85 args h=some (v,h')):Zg 59 args h v h':=by
 unfold Z85 at e
 split at e
 ·obtain⟨a,b,c,d,rfl,rfl,rfl,rfl,f,e⟩:=Oh e
  split at e
  ·rename_i s L ro heq
   obtain⟨D,hD,e⟩:=Zo e
   obtain⟨q,e⟩:=Zu.1 e
   cases e
   simp only[Bool.and_eq_true] at q
   obtain⟨⟨⟨⟨q1,q2⟩,q3⟩,q4⟩,q5⟩:=q
   obtain rfl:=Nat.eq_of_beq_eq_true q1
   obtain rfl:=Nat.eq_of_beq_eq_true q2
   rw[Zkp hD] at heq
   exact Zw3 Hh f (G9 q5) heq (Nat.eq_of_beq_eq_true q3) fun d hd=>Zak (List.all_eq_true.1 q4 d hd)
  ·cases e
 ·cases e
theorem Zvu {args:List W} {h h':Go.Ev.H} {v:V} (e:Z9w args h=some (v,h')):Zg 104 args h v h':=by
 unfold Z9w at e
 split at e
 ·obtain⟨a,b,c,d,rfl,rfl,rfl,rfl,f,e⟩:=Oh e
  obtain⟨q,e⟩:=Zu.1 e
  cases e
  simp only[Bool.and_eq_true] at q
  obtain⟨⟨⟨q1,q2⟩,q3⟩,q5⟩:=q
  obtain⟨ns,rfl,hl⟩:=Zf4 q1
  have q2:=Nat.eq_of_beq_eq_true q2
  rw[q2] at hl
  rw[Od,Lm] at q3
  rw[Od,Fp]
  simp only[goodD,Bool.and_eq_true] at q3
  obtain⟨⟨⟨r1,r2⟩,r3⟩,r4⟩:=q3
  exact Zyb Hh f (G9 q5) hl (Nat.eq_of_beq_eq_true r1) r2 (fun k hk=>by have:=Zql r3 k hk; rwa [Nat.add_zero] at this) fun d hd=>Zak (List.all_eq_true.1 r4 d hd)
 ·cases e
end
theorem Zdi:∀ (D:List Oy) (i:Nat) (x:List Nat),(Fe D i x).length=x.length
 | [],_,_=>rfl
 | d :: D,i,x=>by rw[Fe,Zdi D,Zn8]
def w2 (v:Nat):Nat:=v % 256+256 * (v / 256 % 256)
theorem Z2f {v:Nat} (h:v<65536):w2 v=v:=by unfold w2; omega
theorem at_set {ns:List Nat} {i v:Nat} (h:i<ns.length):atN (ns.set i v) i=v % 256:=by
 unfold atN
 rw[List.getD_eq_getElem?_getD,List.getElem?_set_self h]
 rfl
theorem Za8 {ns:List Nat} {i j v:Nat} (h:i≠j):atN (ns.set i v) j=atN ns j:=by
 unfold atN
 rw[List.getD_eq_getElem?_getD,List.getD_eq_getElem?_getD,List.getElem?_set_ne h]
theorem Zzs {ns:List Nat} {i v:Nat} (h:i+4≤ns.length) (hv:v<4294967296):Yk (Jq ns i v) i=v:=by
 unfold Yk Jq
 have h0:atN ((((ns.set i v).set (i+1) (v / 256)).set (i+2) (v / 256 / 256)).set (i+3) (v / 256 / 256 / 256)) i=v % 256:=by
  rw[Za8 (by omega),Za8 (by omega),Za8 (by omega),at_set (by omega)]
 have h1:atN ((((ns.set i v).set (i+1) (v / 256)).set (i+2) (v / 256 / 256)).set (i+3) (v / 256 / 256 / 256)) (i+1)=v / 256 % 256:=by
  rw[Za8 (by omega),Za8 (by omega),at_set (by rw[List.length_set]; omega)]
 have h2:atN ((((ns.set i v).set (i+1) (v / 256)).set (i+2) (v / 256 / 256)).set (i+3) (v / 256 / 256 / 256)) (i+2)=v / 256 / 256 % 256:=by
  rw[Za8 (by omega),at_set (by rw[List.length_set,List.length_set]; omega)]
 have h3:atN ((((ns.set i v).set (i+1) (v / 256)).set (i+2) (v / 256 / 256)).set (i+3) (v / 256 / 256 / 256)) (i+3)=v / 256 / 256 / 256 % 256:=by
  rw[at_set (by rw[List.length_set,List.length_set,List.length_set]; omega)]
 rw[h0,h1,h2,h3]
 omega
theorem take_set {ns:List Nat} {i v k:Nat} (h:k≤i):(ns.set i v).take k=ns.take k:=by
 refine List.ext_getElem? fun j=>?_
 rw[List.getElem?_take,List.getElem?_take]
 split
 ·rw[List.getElem?_set_ne (by omega)]
 ·rfl
theorem Z1s (ns:List Nat):Wy (Gc ns)=Wy ns:=by
 have:(Gc ns).take 252=ns.take 252:=by
  unfold Gc Jq
  rw[take_set (by omega),take_set (by omega),take_set (by omega),take_set (by omega)]
 unfold Wy
 rw[this]
theorem Zo3 (ns:List Nat) {i n:Nat} (h:i+n≤252):Bb (Gc ns) i n=Bb ns i n:=by
 have:((Gc ns).drop i).take n=(ns.drop i).take n:=by
  rw[List.take_drop,List.take_drop]
  congr 1
  unfold Gc Jq
  rw[take_set (by omega),take_set (by omega),take_set (by omega),take_set (by omega)]
 unfold Bb
 rw[this]
theorem Zud (ns:List Nat) {i:Nat} (h:i<252):atN (Gc ns) i=atN ns i:=by
 unfold Gc Jq
 rw[Za8 (by omega),Za8 (by omega),Za8 (by omega),Za8 (by omega)]
theorem Zec (ns:List Nat) {i:Nat} (h:i<250):Oi (Gc ns) i=Oi ns i:=by
 unfold Oi
 rw[Zud _ (by omega),Zud _ (by omega)]
theorem Ze1 (ns:List Nat):∀ (a i:Nat),i+8 * a≤240→Bh (Gc ns) a i=Bh ns a i
 | 0,_,_=>rfl
 | a+1,i,h=>by
  rw[Bh,Bh,Ze1 ns a (i+8) (by omega)]
  unfold getD
  rw[Zec _ (by omega),Zec _ (by omega),Zec _ (by omega)]
theorem Zlt (ns:List Nat):∀ (a i:Nat),i+8 * a≤240→Nq (Gc ns) a i=Nq ns a i
 | 0,_,_=>rfl
 | a+1,i,h=>by rw[Nq,Nq,Zlt ns a (i+8) (by omega),Zo3 _ (by omega)]
def wD (d:Oy):Oy:=(w2 d.1,w2 d.2.1,w2 d.2.2)
theorem Yap {d:Oy} (h:d.1<65536∧d.2.1<65536∧d.2.2<65536):wD d=d:=by
 unfold wD
 rw[Z2f h.1,Z2f h.2.1,Z2f h.2.2]
theorem tell1 (q x y:Nat):Bh (Fe [(q,x,y)] 0 O0) 1 0=[wD (q,x,y)]∧Nq (Fe [(q,x,y)] 0 O0) 1 0=true∧Bb (Fe [(q,x,y)] 0 O0) 8 244=true:=⟨by kernel_rfl,by kernel_rfl,by kernel_rfl⟩
theorem tell2 (q x y q1 x1 y1:Nat):Bh (Fe [(q,x,y),(q1,x1,y1)] 0 O0) 2 0=[wD (q,x,y),wD (q1,x1,y1)]∧Nq (Fe [(q,x,y),(q1,x1,y1)] 0 O0) 2 0=true∧Bb (Fe [(q,x,y),(q1,x1,y1)] 0 O0) 16 236=true:=⟨by kernel_rfl,by kernel_rfl,by kernel_rfl⟩
theorem tell3 (q x y q1 x1 y1 q2 x2 y2:Nat):Bh (Fe [(q,x,y),(q1,x1,y1),(q2,x2,y2)] 0 O0) 3 0=[wD (q,x,y),wD (q1,x1,y1),wD (q2,x2,y2)]∧Nq (Fe [(q,x,y),(q1,x1,y1),(q2,x2,y2)] 0 O0) 3 0=true∧Bb (Fe [(q,x,y),(q1,x1,y1),(q2,x2,y2)] 0 O0) 24 228=true:=⟨by kernel_rfl,by kernel_rfl,by kernel_rfl⟩
theorem tell4 (q x y q1 x1 y1 q2 x2 y2 q3 x3 y3:Nat):Bh (Fe [(q,x,y),(q1,x1,y1),(q2,x2,y2),(q3,x3,y3)] 0 O0) 4 0=[wD (q,x,y),wD (q1,x1,y1),wD (q2,x2,y2),wD (q3,x3,y3)]∧Nq (Fe [(q,x,y),(q1,x1,y1),(q2,x2,y2),(q3,x3,y3)] 0 O0) 4 0=true∧Bb (Fe [(q,x,y),(q1,x1,y1),(q2,x2,y2),(q3,x3,y3)] 0 O0) 32 220=true:=⟨by kernel_rfl,by kernel_rfl,by kernel_rfl⟩
def Zv5 (D:List Oy):List C:=pgL (Gc (Fe D 0 O0))
theorem Z0g {a m x:Nat} {D:List Oy} (a1:1≤a) (a4:a≤4) (Dl:D.length=a) (Dm:D.all (Xy m x)=true) (mm:m<65536) (xx:x<65536):Bh (Fe D 0 O0) a 0=D∧Nq (Fe D 0 O0) a 0=true∧Bb (Fe D 0 O0) (8 * a) (252 - 8 * a)=true:=by
 have b:∀ d∈D,wD d=d:=fun d hd=>by
  obtain⟨h1,h2,h3⟩:=Zak (List.all_eq_true.1 Dm d hd)
  exact Yap ⟨by omega,by omega,by omega⟩
 match D,Dl with
 | [],Dl=>simp at Dl; omega
 | [(q,u,v)],Dl =>
  obtain rfl:a=1:=by simpa using Dl.symm
  have:=tell1 q u v
  rw[b _ (by simp)] at this
  exact this
 | [(q,u,v),(q1,u1,v1)],Dl =>
  obtain rfl:a=2:=by simpa using Dl.symm
  have:=tell2 q u v q1 u1 v1
  rw[b _ (by simp),b (q1,u1,v1) (by simp)] at this
  exact this
 | [(q,u,v),(q1,u1,v1),(q2,u2,v2)],Dl =>
  obtain rfl:a=3:=by simpa using Dl.symm
  have:=tell3 q u v q1 u1 v1 q2 u2 v2
  rw[b _ (by simp),b (q1,u1,v1) (by simp),b (q2,u2,v2) (by simp)] at this
  exact this
 | [(q,u,v),(q1,u1,v1),(q2,u2,v2),(q3,u3,v3)],Dl =>
  obtain rfl:a=4:=by simpa using Dl.symm
  have:=tell4 q u v q1 u1 v1 q2 u2 v2 q3 u3 v3
  rw[b _ (by simp),b (q1,u1,v1) (by simp),b (q2,u2,v2) (by simp),b (q3,u3,v3) (by simp)] at this
  exact this
 | _ :: _ :: _ :: _ :: _ :: _,Dl=>simp only[List.length_cons] at Dl; omega
theorem Zxz {a b c d:Nat} (f:Ym a b c d=true) {D:List Oy} (Dl:D.length=a) (Dm:D.all (Xy (b - 2 - c / 4) c)=true):Zdm (Zv5 D)=true∧goodD (unN (Zv5 D)) a b c=true∧Bh (unN (Zv5 D)) a 0=D:=by
 obtain⟨g1,g2,g3,g4,g5,g6,g7,g8,g9,g10,g11⟩:=Zv f
 obtain⟨t1,t2,t3⟩:=Z0g g1 g2 Dl Dm (by omega) (by omega)
 refine⟨Qu _,?_,?_⟩
 ·unfold Zv5
  rw[Od,Lm]
  have q1:Yk (Gc (Fe D 0 O0)) 252=Wy (Gc (Fe D 0 O0)):=by
   rw[Z1s]
   exact Zzs (by rw[Zdi,Q8]; omega) (Z2r _)
  unfold goodD
  rw[q1,Nat.beq_refl,Zo3 _ (by omega),t3,Zlt _ _ _ (by omega),t2,Ze1 _ _ _ (by omega),t1,Dm]
  rfl
 ·unfold Zv5
  rw[Od,Fp,Ze1 _ _ _ (by omega)]
  exact t1
end Go.Proofs.YtecakmodlkbnaaaGreatDoor
set_option maxRecDepth 100000
set_option maxHeartbeats 4000000
namespace Go.Proofs.YtecakmodlkbnaaaGreatDoor
open Go.Ev
theorem Zfy {i:Nat} (h:i<8):Y9 i=(i,[]):=if_pos h
theorem Z2j {V:Nat→List Nat} {P:Nat→Nat} {i:Nat} (h:i<8):Zay V P i=P i:=by
 unfold Zay
 rw[Zfy h]
 rfl
structure FI (blk:Nat→Nat) (V:Nat→List Nat) (P:Nat→Nat) (lo m:Nat):Prop where
 i8:P 8=0∨∃ k,lo≤k∧k<m∧P 8=blk k
 bl:∀ i,i<72→Zay V P i=0∨∃ k,lo≤k∧k<m∧Zay V P i=blk k
 dj:∀ i j,i<72→j<72→Zay V P i≠0→Zay V P i=Zay V P j→i=j
 d8:∀ i,i<72→Zay V P i≠0→Zay V P i≠P 8
theorem FI.step {blk:Nat→Nat} {V V':Nat→List Nat} {P P':Nat→Nat} {lo m m' cap i k1:Nat} (F:FI blk V P lo m) (inj:∀ m m',m<cap→m'<cap→blk m=blk m'→m=m') (mc:m'≤cap) (lm:lo≤m) (mm:m≤m') (hP:P' 8=P 8∨∃ k,m≤k∧k<m'∧P' 8=blk k) (hj:∀ j,j<72→j≠i→Zay V' P' j=Zay V P j) (k1m:m≤k1) (k1l:k1<m') (hi:Zay V' P' i=blk k1) (h8:blk k1≠P' 8):FI blk V' P' lo m':=by
 obtain⟨i8,bl,dj,d8⟩:=F
 have old:∀ j,j<72→j≠i→Zay V' P' j≠0→Zay V' P' j≠blk k1:=fun j h1 h2 h3 e=>by
  rw[hj j h1 h2] at h3 e
  rcases bl j h1 with w|⟨k,a1,a2,a3⟩
  ·exact h3 w
  ·have:=inj k k1 (by omega) (by omega) (a3.symm.trans e)
   omega
 refine⟨?_,fun j h1=>?_,fun j l h1 h2 h3 e=>?_,fun j h1 h2=>?_⟩
 ·rcases hP with w|⟨k,a1,a2,a3⟩
  ·rw[w]
   rcases i8 with w2|⟨k,a1,a2,a3⟩
   ·exact .inl w2
   ·exact .inr ⟨k,a1,by omega,a3⟩
  ·exact .inr ⟨k,by omega,a2,a3⟩
 ·by_cases q:j=i
  ·subst q
   exact .inr ⟨k1,by omega,k1l,hi⟩
  ·rw[hj j h1 q]
   rcases bl j h1 with w|⟨k,a1,a2,a3⟩
   ·exact .inl w
   ·exact .inr ⟨k,a1,by omega,a3⟩
 ·by_cases q:j=i
  ·subst q
   by_cases q2:l=j
   ·exact q2.symm
   ·exact absurd (e.symm.trans hi) (old l h2 q2 (by rw[←e]; exact h3))
  ·by_cases q2:l=i
   ·subst q2
    exact absurd (e.trans hi) (old j h1 q h3)
   ·rw[hj j h1 q] at h3 e
    rw[hj l h2 q2] at e
    exact dj j l h1 h2 h3 e
 ·by_cases q:j=i
  ·subst q
   rw[hi]
   exact h8
  ·rw[hj j h1 q] at h2 ⊢
   rcases hP with w|⟨k,a1,a2,a3⟩
   ·rw[w]; exact d8 j h1 h2
   ·rcases bl j h1 with w|⟨k',b1,b2,b3⟩
    ·exact absurd w h2
    ·rw[b3,a3]
     intro e
     have:=inj k' k (by omega) (by omega) e
     omega
def U5 (P:Nat→Nat) (k v:Nat):Nat→Nat:=fun j=>if j=k then v else P j
theorem InoP.set {x:List C} {P:Nat→Nat} (X:InoP x P) {k v:Nat} (hk:k<11) (hv:v<4294967296):InoP (x.set (4+k) (.int .u32 (v:Nat))) (U5 P k v):=by
 obtain⟨xl,pt,pb⟩:=X
 refine⟨by rw[List.length_set]; exact xl,fun i hi=>?_,fun i hi=>?_⟩
 ·unfold U5
  by_cases e:i=k
  ·subst e
   rw[if_pos rfl,List.getElem?_set_self (by omega)]
  ·rw[if_neg e,List.getElem?_set_ne (by omega)]
   exact pt i hi
 ·unfold U5
  split
  ·exact hv
  ·exact pb i hi
def cpN (ns:List Nat) (f:Nat) (xs:List Nat):List Nat:=ns.take f++(xs++ns.drop (f+xs.length))
theorem Zvo {ns xs:List Nat} {f:Nat} (h:f+xs.length≤ns.length):(cpN ns f xs).length=ns.length:=by
 simp only[cpN,List.length_append,List.length_take,List.length_drop]; omega
theorem Z7g {ns xs:List Nat} {f:Nat} (nl:ns.length=256) (h:f+xs.length≤256) (x0:0<xs.length):Z4 256 [pgL ns] f (pgL xs)=some [pgL (cpN ns f xs)]:=by
 have e:pgL (cpN ns f xs)=(pgL ns).take f++pgL xs++(pgL ns).drop (f+xs.length):=by simp only[cpN,pgL,List.map_append,List.map_take,List.map_drop,List.append_assoc]
 rw[e]
 match xs,x0 with
 | [x],_ =>
  have f2:f<256:=by simp only[List.length_cons,List.length_nil] at h; omega
  simp only[Z4,pgL,List.map_cons,List.map_nil]
  rw[Nat.div_eq_of_lt f2,Nat.mod_eq_of_lt f2,List.getElem?_cons_zero]
  have b:Nat.blt f (List.map (fun n=>C.int .u8 ((n % 256:Nat):Int)) ns).length=true:=by rw[List.length_map,nl]; exact Nat.ble_eq_true_of_le f2
  simp only[b,cond_true,List.set_cons_zero]
  rw[List.set_eq_take_append_cons_drop,if_pos (by rw[List.length_map,nl]; exact f2)]
  simp
 | x :: y :: r,_ =>
  simp only[List.length_cons] at h
  simp only[Z4,pgL,List.map_cons]
  rw[Nat.div_eq_of_lt (by omega),Nat.mod_eq_of_lt (by omega),List.getElem?_cons_zero]
  simp only[List.length_map,List.length_cons,nl]
  rw[Nj (by omega),cond_true]
  rfl
theorem Z4e {h:Go.Ev.H} {te:TI} {b f k:Nat} {ns:List Nat} (t1:te.zero=.c (.int .u8 0)) (hb:h.get b=some (.row 256 [pgL ns] false)) (nl:ns.length=256) (k0:0<k) (fk:f+k≤256) :
  Ns h (some te) (.slice b f k 1)=some (Go.Ev.undef,h.put b (.row 256 [pgL (cpN ns f (List.replicate k 0))] false)):=by
 have e:List.replicate k (C.int .u8 0)=pgL (List.replicate k 0):=by simp [pgL]
 have w:=Z7g (ns:=ns) (xs:=List.replicate k 0) (f:=f) nl (by rw[List.length_replicate]; omega) (by rw[List.length_replicate]; omega)
 have b0:Nat.blt 0 k=true:=Nat.ble_eq_true_of_le k0
 simp only[Ns,Zez,b0,Bool.and_self,cond_true,Zbl,t1,X8,hb,e,w]
theorem Z3e {ns xs:List Nat} {f j:Nat} (h:f+xs.length≤ns.length):atN (cpN ns f xs) j=if f≤j∧j<f+xs.length then atN xs (j - f) else atN ns j:=by
 unfold atN cpN
 simp only[List.getD_eq_getElem?_getD]
 by_cases h1:j<f
 ·rw[if_neg (by omega),List.getElem?_append_left (by rw[List.length_take]; omega),List.getElem?_take_of_lt h1]
 ·have l1:(ns.take f).length=f:=by rw[List.length_take]; omega
  rw[List.getElem?_append_right (by omega),l1]
  by_cases h2:j<f+xs.length
  ·rw[if_pos ⟨by omega,h2⟩,List.getElem?_append_left (by omega)]
  ·rw[if_neg (by omega),List.getElem?_append_right (by omega),List.getElem?_drop,show f+xs.length+(j - f - xs.length)=j by omega]
theorem Zca (ns:List Nat) (i v j:Nat) (h:i<ns.length):atN (ns.set i v) j=if j=i then v % 256 else atN ns j:=by
 unfold atN
 simp only[List.getD_eq_getElem?_getD]
 by_cases e:j=i
 ·subst e
  rw[if_pos rfl,List.getElem?_set_self h]
  rfl
 ·rw[if_neg e,List.getElem?_set_ne (Ne.symm e)]
theorem Zzz {ns:List Nat} {a n:Nat} (h:a+n≤ns.length) (z:∀ j,j<n→atN ns (a+j)=0):Bb ns a n=true:=by
 have key:∀ l:List Nat,(∀ b∈l,b=0)→Ze5 l=true:=fun l=>by
  induction l with
  | nil=>intro _; rfl
  | cons b l ih =>
   intro hl
   obtain rfl:=hl b (List.mem_cons_self ..)
   exact ih fun b hb=>hl b (List.mem_cons_of_mem _ hb)
 refine key _ fun b hb=>?_
 obtain⟨j,hj⟩:=List.mem_iff_getElem?.1 hb
 have jn:j<n:=by
  rcases Nat.lt_or_ge j n with q|q
  ·exact q
  ·rw[List.getElem?_eq_none (by rw[List.length_map,List.length_take,List.length_drop]; omega)] at hj; cases hj
 rw[List.getElem?_map,List.getElem?_take_of_lt jn,List.getElem?_drop] at hj
 have:=z j jn
 unfold atN at this
 rw[List.getD_eq_getElem?_getD] at this
 rw[List.getElem?_eq_getElem (by omega)] at hj this
 cases hj
 exact this
theorem Z8c {x:List C} {o n:Nat} (n0:0<n) (h:o+n≤256) (xl:x.length=256):Zn 256 [x] o n=some ((x.drop o).take n):=by
 unfold Zn
 rw[Nn (by omega),cond_false,Nat.div_eq_of_lt (by omega),Nat.mod_eq_of_lt (by omega),List.getElem?_cons_zero]
 simp only
 rw[xl,Nj h,cond_true]
theorem chunks1:∀ (l:List C),chunks 1 l.length l=l.map fun c=>[c]
 | []=>rfl
 | c :: l=>by
  rw[List.length_cons,chunks,List.map_cons]
  show [c] :: chunks 1 l.length l=_
  rw[chunks1 l]
theorem Zkg:∀ (l:List Nat),bytesOf ((pgL l).map fun c=>[c])=some (l.map fun n=>UInt8.ofNat (n % 256))
 | []=>rfl
 | n :: l=>by
  show (match bytesOf ((pgL l).map fun c=>[c]) with
   | none=>none
   | some r=>some (UInt8.ofNat (n % 256) :: r))=_
  rw[Zkg l]
  rfl
theorem Z4s {h:Go.Ev.H} {p o:Nat} {ns:List Nat} {s:List UInt8} (hp:h.get p=some (.row 256 [pgL ns] false)) (nl:ns.length=256) (s0:0<s.length) (ho:o+s.length≤256) (hs:∀ j (b:UInt8),s[j]? = some b→atN ns (o+j)=b.toNat):Zhc h (Ul h 1 (.slice p o s.length 1))=some (.w (.c (.str s)),h):=by
 have e:Ul h 1 (.slice p o s.length 1)=some ((pgL ((ns.drop o).take s.length)).map fun c=>[c]):=by
  have l1:((pgL ns).drop o).take s.length=pgL ((ns.drop o).take s.length):=by simp only[pgL,List.map_take,List.map_drop]
  have l2:(pgL ((ns.drop o).take s.length)).length=s.length:=by rw[Jy,List.length_take,List.length_drop]; omega
  have:=chunks1 (pgL ((ns.drop o).take s.length))
  rw[l2] at this
  simp only[Ul,Zez,cond_true,Nn (show s.length≠0 by omega),cond_false,hp,Qi,Fj,Nn (show (256:Nat)≠1 by decide),Nat.mul_one,Z8c (x:=pgL ns) s0 ho (by rw[Jy,nl]),l1,this]
 rw[e]
 show Go.Ev.strOf h (bytesOf _)=_
 rw[Zkg]
 show some (V.w (.c (.str _)),h)=_
 congr 5
 apply List.ext_getElem?
 intro j
 rw[List.getElem?_map]
 rcases Nat.lt_or_ge j s.length with q|q
 ·rw[List.getElem?_take_of_lt q,List.getElem?_drop,List.getElem?_eq_getElem (by omega),List.getElem?_eq_getElem q,Option.map_some]
  have:=hs j _ (List.getElem?_eq_getElem q)
  unfold atN at this
  rw[List.getD_eq_getElem?_getD,List.getElem?_eq_getElem (by omega),Option.getD_some] at this
  rw[this]
  simp
 ·rw[List.getElem?_eq_none (by rw[List.length_take]; omega),List.getElem?_eq_none q]
  rfl
theorem Z5y {h:Go.Ev.H} {te:TI} {b f l:Nat} {ns:List Nat} {s:List UInt8} (t1:te.size=1) (hb:h.get b=some (.row 256 [pgL ns] false)) (nl:ns.length=256) (s0:0<s.length) (fk:f+s.length≤256) (kl:s.length≤l) :
  Zbu h (some te) (.slice b f l 1) (.str s)=some (.w (.c (.int .i64 (s.length:Int))),h.put b (.row 256 [pgL (cpN ns f (s.map UInt8.toNat))] false)):=by
 have e:(s.map fun c=>[C.int .u8 (c.toNat:Int)])=(pgL (s.map UInt8.toNat)).map fun c=>[c]:=by
  rw[pgL,List.map_map,List.map_map]
  refine List.map_congr_left fun c _=>?_
  show [C.int .u8 _]=[C.int .u8 ((c.toNat % 256:Nat):Int)]
  rw[Nat.mod_eq_of_lt c.toNat_lt]
 have fl:∀ l:List C,(l.map fun c=>[c]).flatten=l:=fun l=>by
  induction l with
  | nil=>rfl
  | cons c l ih=>rw[List.map_cons,List.flatten_cons,ih]; rfl
 have wm:Vi 256 [pgL ns] f 1 (s.map fun c=>[C.int .u8 (c.toNat:Int)])=some [pgL (cpN ns f (s.map UInt8.toNat))]:=by
  have w2:=Z7g (ns:=ns) (xs:=s.map UInt8.toNat) (f:=f) nl (by rw[List.length_map]; omega) (by rw[List.length_map]; omega)
  rw[←fl (pgL (s.map UInt8.toNat)),←e] at w2
  obtain⟨X,hX⟩:∃ X,(s.map fun c=>[C.int .u8 (c.toNat:Int)])=X:=⟨_,rfl⟩
  have Xl:X.length=s.length:=by rw[←hX,List.length_map]
  rw[hX] at w2 ⊢
  match X,Xl with
  | [],x=>rw[List.length_nil] at x; omega
  | x :: X,_=>exact w2
 have n0:Nat.beq s.length 0=false:=Nn (by omega)
 simp only[Zbu,Zn3,Nat.min_eq_left kl,n0,cond_false,t1,Zez,cond_true,Zsz,Ul,Zic,List.take_length,Zt2,hb,wm]
end Go.Proofs.YtecakmodlkbnaaaGreatDoor
set_option maxRecDepth 100000
namespace Go.Proofs.YtecakmodlkbnaaaGreatDoor
open Go.Ev
def xIB (args:List W) (h:Go.Ev.H):Option (V × Go.Ev.H):=match args with
 | [.c (.str s),.c (.int .u8 c)]=>some (.w (.c (.int .i64 (Go.Lib.indexByte s c.toNat.toUInt8))),h)
 | _=>none
theorem Zp5 (s:List UInt8) (c:Int) (h:Go.Ev.H):Zg 83 [.c (.str s),.c (.int .u8 c)] h (.w (.c (.int .i64 (Go.Lib.indexByte s c.toNat.toUInt8)))) h:=by
 refine Zy.Z6f ⟨Tryz.f83,Tryz.func83,by kernel_rfl,by decide⟩ fun ρ w vals hr ha=>?_
 obtain⟨a,b,rfl,hx,hy⟩:=M9 ha
 have e1:a=.string ⟨⟨s⟩⟩:=hx
 have e2:b=.int .u8 c:=hy
 subst e1; subst e2
 exact⟨_,rfl,Any.strings_IndexByte Tryz.lays137 ⟨⟨s⟩⟩ c w⟩
theorem Zbm {args:List W} {h h':Go.Ev.H} {v:V} (e:xIB args h=some (v,h')):Zg 83 args h v h':=by
 unfold xIB at e
 split at e
 ·cases e
  exact Zp5 _ _ _
 ·cases e
end Go.Proofs.YtecakmodlkbnaaaGreatDoor
