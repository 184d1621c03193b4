/- super: geometries and descriptors handed on. -/
import Derived.Test.YtdkcjalmhdofcaaGreatDoorPge
import Derived.Test.YtdkcjalmhdofcaaGreatDoorHba
set_option linter.unusedSimpArgs false
set_option linter.unusedVariables false
set_option linter.unusedSectionVars false
set_option maxRecDepth 100000
set_option maxHeartbeats 4000000
namespace Go.Proofs.YtdkcjalmhdofcaaGreatDoor
open Go.Ev
theorem ty39:K.types.get 39=some ti39:=by kernel_rfl
theorem sz39:ti39.size=1:=by rfl
theorem ag39:ti39.agg=false:=by rfl
theorem de39:ti39.desc=(.int .u64):=by rfl
theorem ze39:ti39.zero=(.c (.int .u64 0)):=by rfl
theorem by39:ti39.bytes=8:=by rfl
theorem ke39 (k:IntKind) (n:Int):Bn K 20 39 (.c (.int k n))=true:=by kernel_rfl
theorem ty88:K.types.get 88=some ti88:=by kernel_rfl
theorem sz88:ti88.size=1:=by rfl
theorem ag88:ti88.agg=false:=by rfl
theorem de88:ti88.desc=(.slice 100):=by rfl
theorem ze88:ti88.zero=(.c (.snil)):=by rfl
theorem by88:ti88.bytes=24:=by rfl
theorem el88:Yz K 88=some ti100:=by kernel_rfl
theorem ty100:K.types.get 100=some ti100:=by kernel_rfl
theorem sz100:ti100.size=3:=by rfl
theorem ag100:ti100.agg=true:=by rfl
theorem fo100_0:Zp K 100 0=some (0,ti3):=by kernel_rfl
theorem fo100_1:Zp K 100 1=some (1,ti3):=by kernel_rfl
theorem fo100_2:Zp K 100 2=some (2,ti3):=by kernel_rfl
theorem bu100 (ps:List (Nat × W)):Z9 K 100 (some ps)=gW (Z5 K 100 ps ti100.zero.cells):=by kernel_rfl
theorem ze100:ti100.zero=(.g ([.int .i64 0,.int .i64 0,.int .i64 0])):=by rfl
theorem by100:ti100.bytes=24:=by rfl
theorem ty116:K.types.get 116=some ti116:=by kernel_rfl
theorem sz116:ti116.size=5:=by rfl
theorem ag116:ti116.agg=true:=by rfl
theorem fo116_0:Zp K 116 0=some (0,ti24):=by kernel_rfl
theorem fo116_1:Zp K 116 1=some (4,ti44):=by kernel_rfl
theorem bu116 (ps:List (Nat × W)):Z9 K 116 (some ps)=gW (Z5 K 116 ps ti116.zero.cells):=by kernel_rfl
theorem ze116:ti116.zero=(.g ([.int .i64 0,.int .i64 0,.int .i64 0,.int .i64 0,.int .u32 0])):=by rfl
theorem by116:ti116.bytes=40:=by rfl
attribute [go_sem] ty39 sz39 ag39 de39 ze39 by39 ke39 ty88 sz88 ag88 de88 ze88 by88 el88 ty100 sz100 ag100 fo100_0 fo100_1 fo100_2 bu100 ze100 by100 ty116 sz116 ag116 fo116_0 fo116_1 bu116 ze116 by116
theorem rs138:Tryz.f138.results.toList=[]:=rfl
theorem rs132:Tryz.f132.results.toList=[]:=rfl
theorem rs121:Tryz.f121.results.toList=[.cell 4 100]:=rfl
theorem rs136:Tryz.f136.results.toList=[.tmp 2]:=rfl
theorem rs92:Tryz.f92.results.toList=[.cell 2 60,.tmp 3]:=rfl
theorem rs123:Tryz.f123.results.toList=[.tmp 4]:=rfl
attribute [go_sem] rs138 rs132 rs121 rs136 rs92 rs123
def Zkl (ns:List Nat) (a b c d:Nat):List Nat:=Ua (Ua (Ua (Ua ns 8 a) 10 b) 12 c) 14 d
def Zjm (ns:List Nat) (i a b c:Nat):List Nat:=Ua (Ua (Ua ns i a) (i+2) b) (i+4) c
theorem Zpa (ns:List Nat) (i v:Nat):pgL (Ua ns i v)=((pgL ns).set i (.int .u8 ((v % 256:Nat):Int))).set (i+1) (.int .u8 ((v / 256 % 256:Nat):Int)):=by rw[D8,D8]; rfl
theorem Zzk (ns:List Nat) (a b c d:Nat):pgL (Zkl (ns.map (· % 256)) a b c d)=pgL (Zkl ns a b c d):=by simp only[Zkl,Zpa,Zh3]
theorem Zpo (ns:List Nat) (i a b c:Nat):pgL (Zjm (ns.map (· % 256)) i a b c)=pgL (Zjm ns i a b c):=by simp only[Zjm,Zpa,Zh3]
theorem Zpq (ns:List Nat) (a b c d:Nat):(Zkl ns a b c d).length=ns.length:=by simp only[Zkl,Ym]
theorem Zi5 (ns:List Nat) (i a b c:Nat):(Zjm ns i a b c).length=ns.length:=by simp only[Zjm,Ym]
noncomputable def Zzu:Kn1:=fun args h=>match args with
 | [.g [.int .i64 a,.int .i64 b,.int .i64 c,.int .i64 d],.c (.fn f [some (p,0)] [])]=>Wq a b c d fun a b c d=>(Bt h p).bind fun x=>Yt (Nat.beq f 133) (some (.tup [],h.put p (.row 256 [pgL (Zkl (unN x) a b c d)] false)))
 | _=>none
noncomputable def Zdi:Kn1:=fun args h=>match args with
 | [.c (.int .i64 i),.g [.int .i64 a,.int .i64 b,.int .i64 c],.c (.fn f [some (p,0)] [])]=>(Jy i).bind fun i=>(Jy a).bind fun a=>(Jy b).bind fun b=>(Jy c).bind fun c=>(Bt h p).bind fun x=>Yt (Nat.beq f 133&&decide (i+6≤256)&&decide (a<65536)&&decide (b<65536)&&decide (c<65536)) (some (.tup [],h.put p (.row 256 [pgL (Zjm (unN x) i a b c)] false)))
 | _=>none
noncomputable def Ze8:Kn1:=fun args h=>match args with
 | [.c (.int .i64 i),.c (.fn f [some (p,0)] [])]=>(Jy i).bind fun i=>(Bt h p).bind fun x=>Yt (Nat.beq f 122&&decide (i+6≤256)) (some (.w (.g [.int .i64 ((J4 (unN x) i:Nat):Int),.int .i64 ((J4 (unN x) (i+2):Nat):Int),.int .i64 ((J4 (unN x) (i+4):Nat):Int)]),h))
 | _=>none
noncomputable def Zqs:Kn1:=fun args h=>match args with
 | [.g [.int .i64 a,.int .i64 b,.int .i64 c,.int .i64 d,.int .u32 z]]=>Wq a b c d fun _ _ _ _=>Yt (decide (z=0)) (some (.w (.c (.bool true)),h))
 | _=>none
def Zye (dt ino:Nat):List C→Bool
 | [.int .i64 x,.int .i64 y,.int .i64 z]=>decide (0≤x)&&decide (x≤(dt:Int))&&decide (0≤y)&&decide (y≤(ino:Int))&&decide (0≤z)&&decide (z≤(ino:Int) - y)
 | _=>false
theorem V7 {dt ino:Nat} {l:List C} (e:Zye dt ino l=true):∃ x y z:Int,l=[.int .i64 x,.int .i64 y,.int .i64 z]∧0≤x∧x≤(dt:Int)∧0≤y∧y≤(ino:Int)∧0≤z∧z≤(ino:Int) - y:=by
 unfold Zye at e
 split at e
 ·simp only[Bool.and_eq_true,decide_eq_true_eq] at e
  obtain⟨⟨⟨⟨⟨e1,e2⟩,e3⟩,e4⟩,e5⟩,e6⟩:=e
  exact⟨_,_,_,rfl,e1,e2,e3,e4,e5,e6⟩
 ·cases e
noncomputable def Zmv:Kn1:=fun args h=>match args with
 | [.g [.int .i64 a,.int .i64 b,.int .i64 c,.int .i64 d],.c (.slice n 0 len 3)]=>Wq a b c d fun a b c _=>match h.get n with
  | some (.row s L _)=>Yt (Nat.beq s 3&&Nat.beq len a&&Nat.beq L.length a&&L.all (Zye (b - 2 - c / 4) c)) (some (.w (.c (.bool true)),h))
  | _=>none
 | _=>none
attribute [go_sem] Zzu Zdi Ze8 Zqs Zmv Zzk Zpo Zpq Zi5 Zye
theorem Zzq (p o l:Nat):Yr K 88 (.c (.slice p o l 3))=true:=by kernel_rfl
attribute [go_sem] Zzq
theorem Z08 {b:Nat} (ns:List Nat):Zso b (.row 256 [pgL ns] false):=Zqi fun τ _=>by
 show [(pgL ns).map (C.ren τ)]=_
 rw[Us (fun a ha=>C.Jd ha _) (Ru ns)]
section
variable (Hh:Hearts K Tryz.prog)
include Hh
theorem Zkb {args:List W} {h h':Go.Ev.H} {v:V} (e:Zdi args h=some (v,h')):Zg K Tryz.prog 132 args h v h':=by
 unfold Zdi at e
 split at e
 ·rename_i p
  obtain⟨i,hi,e⟩:=Zq e
  obtain⟨a,ha,e⟩:=Zq e
  obtain⟨b,hb,e⟩:=Zq e
  obtain⟨c,hc,e⟩:=Zq e
  obtain⟨x,hx,e⟩:=Zq e
  obtain⟨ns,rfl,hl,hp⟩:=Jf hx
  obtain⟨q,e⟩:=Zv.1 e
  simp only[Bool.and_eq_true,decide_eq_true_eq] at q
  obtain⟨⟨⟨⟨q1,q2⟩,q3⟩,q4⟩,q5⟩:=q
  cases e
  obtain rfl:=Nat.eq_of_beq_eq_true q1
  rw[Z8 hi,Z8 ha,Z8 hb,Z8 hc,Om,Zpo]
  have e2:(i:Int)+2=((i+2:Nat):Int):=rfl
  have e4:(i:Int)+4=((i+4:Nat):Int):=rfl
  unfold Zjm
  refine Zg.tidy ⟨Tryz.f132,Tryz.func132,by kernel_rfl,by decide⟩ fun tidy=>?_
  have lp:=tidy _ _ hp
  have pp:=@H.Zcy
  obtain⟨v,h',cc,rfl,hk⟩:∃ v h',Zg K Tryz.prog 132 [.c (.int .i64 (i:Int)),.g [.int .i64 (a:Int),.int .i64 (b:Int),.int .i64 (c:Int)],.c (.fn 133 [some (p,0)] [])] h v h'∧v=.tup []∧∀ m,m<h.next→h'.get m=(h.put p (.row 256 [pgL (Ua (Ua (Ua ns i a) (i+2) b) (i+4) c)] false)).get m:=by
   refine Zg.Yb fits Hh (by kernel_rfl) (by kernel_rfl) (by kernel_rfl) (show Tryz.f132.body=some _ from rfl) rfl ?_
   repeat (first|apply Goes.seq|apply Goes.block|apply Goes.loop|apply Goes.skip|apply Goes.exit|apply Goes.ret|((first|apply Goes.Zo|apply Goes.ops2 fits Hh (Zj Zb (fun _ _ _ _=>Zww Hh))); · simp (maxSteps:=9^6) +decide (disch:=first|omega|(simp only[lens]<;>omega)|decide) only [go_sem,Zd,Za,simprocAttr,hp,hl,e2,e4,pp,read1,List.map_cons,Nw,List.cons_append]<;>rfl))
   exact⟨_,_,(by simp (maxSteps:=9^6) +decide (disch:=first|omega|(simp only[lens]<;>omega)|decide) only [go_sem,Zd,Za,simprocAttr]<;>rfl),rfl,fun m hm=>by (first|(simp (discharger:=omega) only [H.get_put,H.Zf,H.Zk,H.Zc,H.Zh,H.Zi,if_neg]; done)|(simp only[H.get_put,H.Zf,H.Zk,H.Zc,H.Zh,H.Zi]; (repeat' split)<;>first|rfl|(exfalso; omega)|omega))⟩
  exact cc.settle ((Sq.refl tidy).put lp (Z08 _)) (Zhy.flat rfl) hk
 ·cases e
theorem Zl5 {args:List W} {h h':Go.Ev.H} {v:V} (e:Ze8 args h=some (v,h')):Zg K Tryz.prog 121 args h v h':=by
 unfold Ze8 at e
 split at e
 ·rename_i p
  obtain⟨i,hi,e⟩:=Zq e
  obtain⟨x,hx,e⟩:=Zq e
  obtain⟨ns,rfl,hl,hp⟩:=Jf hx
  obtain⟨q,e⟩:=Zv.1 e
  simp only[Bool.and_eq_true,decide_eq_true_eq] at q
  obtain⟨q1,q2⟩:=q
  cases e
  obtain rfl:=Nat.eq_of_beq_eq_true q1
  rw[Z8 hi]
  simp only[Om,Tz]
  have e2:(i:Int)+2=((i+2:Nat):Int):=rfl
  have e4:(i:Int)+4=((i+4:Nat):Int):=rfl
  refine Zg.tidy ⟨Tryz.f121,Tryz.func121,by kernel_rfl,by decide⟩ fun tidy=>?_
  have lp:=tidy _ _ hp
  obtain⟨v,h',cc,rfl,hk⟩:∃ v h',Zg K Tryz.prog 121 [.c (.int .i64 (i:Int)),.c (.fn 122 [some (p,0)] [])] h v h'∧v=.w (.g [.int .i64 ((J4 ns i:Nat):Int),.int .i64 ((J4 ns (i+2):Nat):Int),.int .i64 ((J4 ns (i+4):Nat):Int)])∧∀ m,m<h.next→h'.get m=h.get m:=by
   refine Zg.Yb fits Hh (by kernel_rfl) (by kernel_rfl) (by kernel_rfl) (show Tryz.f121.body=some _ from rfl) rfl ?_
   repeat (first|apply Goes.seq|apply Goes.block|apply Goes.loop|apply Goes.skip|apply Goes.exit|apply Goes.ret|((first|apply Goes.Zo|apply Goes.ops2 fits Hh (Zj Zb (fun _ _ _ _=>Zv2 Hh))); · simp (maxSteps:=9^6) +decide (disch:=first|omega|(simp only[lens]<;>omega)|decide) only [go_sem,Zd,Za,simprocAttr,hp,hl,e2,e4,read1,Z4,List.map_cons,Nw,List.cons_append]<;>rfl))
   exact⟨_,_,(by simp (maxSteps:=9^6) +decide (disch:=first|omega|(simp only[lens]<;>omega)|decide) only [go_sem,Zd,Za,simprocAttr]<;>rfl),rfl,fun m hm=>by (first|(simp (discharger:=omega) only [H.get_put,H.Zf,H.Zk,H.Zc,H.Zh,H.Zi,if_neg]; done)|(simp only[H.get_put,H.Zf,H.Zk,H.Zc,H.Zh,H.Zi]; (repeat' split)<;>first|rfl|(exfalso; omega)|omega))⟩
  exact cc.quiet rfl hk
 ·cases e
theorem Zgu {args:List W} {h h':Go.Ev.H} {v:V} (e:Zmv args h=some (v,h')):Zg K Tryz.prog 123 args h v h':=by
 unfold Zmv at e
 split at e
 ·rename_i n len
  obtain⟨a,b,c,d,rfl,rfl,rfl,rfl,f,e⟩:=Gf e
  split at e
  ·rename_i s L ro heq
   obtain⟨q,e⟩:=Zv.1 e
   cases e
   simp only[Bool.and_eq_true] at q
   obtain⟨⟨⟨q1,q2⟩,q3⟩,q4⟩:=q
   obtain rfl:=Nat.eq_of_beq_eq_true q1
   obtain rfl:=Nat.eq_of_beq_eq_true q2
   have q3:=Nat.eq_of_beq_eq_true q3
   have q4:=List.all_eq_true.1 q4
   have F:=Yc f
   obtain⟨g1,g2,g3,g4,g5,g6,g7,g8,g9,g10,g11⟩:=F
   refine Zg.tidy ⟨Tryz.f123,Tryz.func123,by kernel_rfl,by decide⟩ fun tidy=>?_
   have l1:=tidy _ _ heq
   obtain⟨v,h',cc,rfl,hk⟩:∃ v h',Zg K Tryz.prog 123 [.g [.int .i64 (len:Int),.int .i64 (b:Int),.int .i64 (c:Int),.int .i64 (d:Int)],.c (.slice n 0 len 3)] h v h'∧v=.w (.c (.bool true))∧∀ m,m<h.next→h'.get m=h.get m:=by
    rcases L with _|⟨r0,_|⟨r1,_|⟨r2,_|⟨r3,_|⟨r4,L⟩⟩⟩⟩⟩
    ·simp only[List.length_nil] at q3; omega
    rotate_right
    ·simp only[List.length_cons] at q3; omega
    all_goals
     simp only[List.length_cons,List.length_nil] at q3
     subst q3
     obtain⟨x0,y0,z0,rfl,a1,a2,a3,a4,a5,a6⟩:=V7 (q4 r0 (by simp))
     try obtain⟨x1,y1,z1,rfl,b1,b2,b3,b4,b5,b6⟩:=V7 (q4 r1 (by simp))
     try obtain⟨x2,y2,z2,rfl,c1,c2,c3,c4,c5,c6⟩:=V7 (q4 r2 (by simp))
     try obtain⟨x3,y3,z3,rfl,d1,d2,d3,d4,d5,d6⟩:=V7 (q4 r3 (by simp))
     refine Zg.Yb fits Hh (by kernel_rfl) (by kernel_rfl) (by kernel_rfl) (show Tryz.f123.body=some _ from rfl) rfl ?_
     repeat (first|apply Goes.seq|apply Goes.block|apply Goes.loop|apply Goes.skip|apply Goes.exit|apply Goes.ret|((first|apply Goes.Zo|apply Goes.ops2 fits Hh (Zj Zb (fun _ _ _ _=>Zsc Hh))); · simp (maxSteps:=9^6) +decide (disch:=first|omega|(simp only[lens]<;>omega)|decide) only [go_sem,Zd,Za,simprocAttr,f,heq,read1,Z6,Zn,Yg]<;>rfl))
     exact⟨_,_,(by simp (maxSteps:=9^6) +decide (disch:=first|omega|(simp only[lens]<;>omega)|decide) only [go_sem,Zd,Za,simprocAttr]<;>rfl),rfl,fun m hm=>by (first|(simp (discharger:=omega) only [H.get_put,H.Zf,H.Zk,H.Zc,H.Zh,H.Zi,if_neg]; done)|(simp only[H.get_put,H.Zf,H.Zk,H.Zc,H.Zh,H.Zi]; (repeat' split)<;>first|rfl|(exfalso; omega)|omega))⟩
   exact cc.quiet rfl hk
  ·cases e
 ·cases e
end
end Go.Proofs.YtdkcjalmhdofcaaGreatDoor
set_option maxRecDepth 100000
set_option maxHeartbeats 4000000
namespace Go.Proofs.YtdkcjalmhdofcaaGreatDoor
open Go.Ev
def Ow:List Nat:=List.replicate 256 0
def Bf (ns:List Nat):List Nat:=Jg ns 252 (Sr ns)
abbrev Bc:=Nat × Nat × Nat
def O4 (d:Bc):List C:=[.int .i64 (d.1:Int),.int .i64 (d.2.1:Int),.int .i64 (d.2.2:Int)]
def D9:List Bc→Nat→List Nat→List Nat
 | [],_,x=>x
 | d :: D,i,x=>D9 D (i+8) (Zjm x i d.1 d.2.1 d.2.2)
def getD (ns:List Nat) (i:Nat):Bc:=(J4 ns i,J4 ns (i+2),J4 ns (i+4))
def Gp (ns:List Nat):Nat→Nat→List Bc
 | 0,_=>[]
 | k+1,i=>getD ns i :: Gp ns k (i+8)
theorem zPg:List.replicate 256 (C.int .u8 0)=pgL Ow:=by kernel_rfl
theorem Zif:Ow.length=256:=by kernel_rfl
theorem Zg3:∀ D:List Bc,(D.map O4).all (fun l=>l.all C.flat)=true
 | []=>rfl
 | _ :: D=>Zg3 D
theorem Zpn:(∀ ns:List Nat,(pgL ns).length=ns.length)∧(∀ (ns:List Nat) (i v:Nat),(Ua ns i v).length=ns.length)∧(∀ (ns:List Nat) (i v:Nat),(Jg ns i v).length=ns.length)∧(∀ (ns:List Nat) (a b c d:Nat),(Zkl ns a b c d).length=ns.length)∧(∀ (ns:List Nat) (i a b c:Nat),(Zjm ns i a b c).length=ns.length):=⟨Ob,Ym,Yf,Zpq,Zi5⟩
theorem Zzi {ns:List Nat} (h:ns.length≤256∧256≤ns.length):Zd 256 [pgL ns] 0 256=some (pgL ns):=Dt (by rw[Ob]; omega)
theorem Z3h {ns:List Nat} {x:List C} (h:(ns.length≤256∧256≤ns.length)∧x.length≤256∧256≤x.length):Z4 256 [x] 0 (pgL ns)=some [pgL ns]:=L6 (by rw[Ob]; omega)
theorem rd4 (a b c d:C):Zd 4 [[a,b,c,d]] 0 4=some [a,b,c,d]:=rfl
theorem rd30 (x y z:C) (L:List (List C)):Zd 3 ([x,y,z] :: L) 0 3=some [x,y,z]:=rfl
theorem rd31 (r0:List C) (x y z:C) (L:List (List C)):Zd 3 (r0 :: [x,y,z] :: L) 3 3=some [x,y,z]:=rfl
theorem rd32 (r0 r1:List C) (x y z:C) (L:List (List C)):Zd 3 (r0 :: r1 :: [x,y,z] :: L) 6 3=some [x,y,z]:=rfl
theorem rd33 (r0 r1 r2:List C) (x y z:C) (L:List (List C)):Zd 3 (r0 :: r1 :: r2 :: [x,y,z] :: L) 9 3=some [x,y,z]:=rfl
theorem wr30 (x y z a b c:C) (L:List (List C)):Z4 3 ([x,y,z] :: L) 0 [a,b,c]=some ([a,b,c] :: L):=rfl
theorem wr31 (r0:List C) (x y z a b c:C) (L:List (List C)):Z4 3 (r0 :: [x,y,z] :: L) 3 [a,b,c]=some (r0 :: [a,b,c] :: L):=rfl
theorem wr32 (r0 r1:List C) (x y z a b c:C) (L:List (List C)):Z4 3 (r0 :: r1 :: [x,y,z] :: L) 6 [a,b,c]=some (r0 :: r1 :: [a,b,c] :: L):=rfl
theorem wr33 (r0 r1 r2:List C) (x y z a b c:C) (L:List (List C)):Z4 3 (r0 :: r1 :: r2 :: [x,y,z] :: L) 9 [a,b,c]=some (r0 :: r1 :: r2 :: [a,b,c] :: L):=rfl
def Z4d (a b c d:Nat):List Nat:=Bf (Jg (Zkl (Ua (Ua (Jg Ow 0 827216465) 4 1) 6 256) a b c d) 16 0)
noncomputable def Z38:Kn1:=fun args h=>match args with
 | [.g [.int .i64 a,.int .i64 b,.int .i64 c,.int .i64 d,.int .u32 z]]=>Wq a b c d fun a b c d=>Yt (decide (z=0)&&Bl (h.get 0)) (some (.tup [.g (pgL (Z4d a b c d)),.c (.int .i64 0)],h))
 | _=>none
attribute [go_sem] Z38
section
variable (Hh:Hearts K Tryz.prog)
include Hh
end
end Go.Proofs.YtdkcjalmhdofcaaGreatDoor
