/- super: geometries and descriptors handed on. -/
import Derived.Test.YtmdibcklpmeleaaGreatDoorPge
import Derived.Test.YtmdibcklpmeleaaGreatDoorInd
set_option linter.unusedSimpArgs false
set_option linter.unusedVariables false
set_option linter.unusedSectionVars false
set_option maxRecDepth 100000
set_option maxHeartbeats 4000000
namespace Go.Proofs.YtmdibcklpmeleaaGreatDoor
open Go.Ev
theorem ty83:K.types.get 83=some ti83:=by kernel_rfl
theorem sz83:ti83.size=1:=by rfl
theorem ag83:ti83.agg=false:=by rfl
theorem de83:ti83.desc=(.slice 92):=by rfl
theorem ze83:ti83.zero=(.c (.snil)):=by rfl
theorem by83:ti83.bytes=24:=by rfl
theorem el83:Jl K 83=some ti92:=by kernel_rfl
theorem ty92:K.types.get 92=some ti92:=by kernel_rfl
theorem sz92:ti92.size=3:=by rfl
theorem ag92:ti92.agg=true:=by rfl
theorem fo92_0:Zr K 92 0=some (0,ti3):=by kernel_rfl
theorem fo92_1:Zr K 92 1=some (1,ti3):=by kernel_rfl
theorem fo92_2:Zr K 92 2=some (2,ti3):=by kernel_rfl
theorem bu92 (ps:List (Nat × W)):Yi K 92 (some ps)=gW (Z7 K 92 ps ti92.zero.cells):=by kernel_rfl
theorem ze92:ti92.zero=(.g ([.int .i64 0,.int .i64 0,.int .i64 0])):=by rfl
theorem by92:ti92.bytes=24:=by rfl
theorem ty104:K.types.get 104=some ti104:=by kernel_rfl
theorem sz104:ti104.size=5:=by rfl
theorem ag104:ti104.agg=true:=by rfl
theorem fo104_0:Zr K 104 0=some (0,ti23):=by kernel_rfl
theorem fo104_1:Zr K 104 1=some (4,ti27):=by kernel_rfl
theorem bu104 (ps:List (Nat × W)):Yi K 104 (some ps)=gW (Z7 K 104 ps ti104.zero.cells):=by kernel_rfl
theorem ze104:ti104.zero=(.g ([.int .i64 0,.int .i64 0,.int .i64 0,.int .i64 0,.int .u32 0])):=by rfl
theorem by104:ti104.bytes=40:=by rfl
theorem ty198:K.types.get 198=some ti198:=by kernel_rfl
theorem sz198:ti198.size=1:=by rfl
theorem ag198:ti198.agg=false:=by rfl
theorem de198:ti198.desc=(.int .u64):=by rfl
theorem ze198:ti198.zero=(.c (.int .u64 0)):=by rfl
theorem by198:ti198.bytes=8:=by rfl
theorem ke198 (k:IntKind) (n:Int):Fg K 20 198 (.c (.int k n))=true:=by kernel_rfl
attribute [go_sem] ty83 sz83 ag83 de83 ze83 by83 el83 ty92 sz92 ag92 fo92_0 fo92_1 fo92_2 bu92 ze92 by92 ty104 sz104 ag104 fo104_0 fo104_1 bu104 ze104 by104 ty198 sz198 ag198 de198 ze198 by198 ke198
theorem rs94:Tryz.f94.results.toList=[]:=rfl
theorem rs97:Tryz.f97.results.toList=[]:=rfl
theorem rs128:Tryz.f128.results.toList=[.cell 4 92]:=rfl
theorem rs91:Tryz.f91.results.toList=[.tmp 2]:=rfl
theorem rs51:Tryz.f51.results.toList=[.cell 2 78,.tmp 3]:=rfl
theorem rs96:Tryz.f96.results.toList=[.tmp 4]:=rfl
attribute [go_sem] rs94 rs97 rs128 rs91 rs51 rs96
def Znh (ns:List Nat) (a b c d:Nat):List Nat:=Ut (Ut (Ut (Ut ns 8 a) 10 b) 12 c) 14 d
def Zrn (ns:List Nat) (i a b c:Nat):List Nat:=Ut (Ut (Ut ns i a) (i+2) b) (i+4) c
theorem Zz9 (ns:List Nat) (i v:Nat):pgL (Ut ns i v)=((pgL ns).set i (.int .u8 ((v % 256:Nat):Int))).set (i+1) (.int .u8 ((v / 256 % 256:Nat):Int)):=by rw[Mc,Mc]; rfl
theorem Zzf (ns:List Nat) (a b c d:Nat):pgL (Znh (ns.map (· % 256)) a b c d)=pgL (Znh ns a b c d):=by simp only[Znh,Zz9,Zxz]
theorem Zzh (ns:List Nat) (i a b c:Nat):pgL (Zrn (ns.map (· % 256)) i a b c)=pgL (Zrn ns i a b c):=by simp only[Zrn,Zz9,Zxz]
theorem Zrb (ns:List Nat) (a b c d:Nat):(Znh ns a b c d).length=ns.length:=by simp only[Znh,Yt]
theorem Zqb (ns:List Nat) (i a b c:Nat):(Zrn ns i a b c).length=ns.length:=by simp only[Zrn,Yt]
noncomputable def Zq9:Kn1:=fun args h=>match args with
 | [.g [.int .i64 a,.int .i64 b,.int .i64 c,.int .i64 d],.c (.fn f [some (p,0)] [])]=>Zbc a b c d fun a b c d=>(Fx h p).bind fun x=>Y2 (Nat.beq f 93) (some (.tup [],h.put p (.row 256 [pgL (Znh (unN x) a b c d)] false)))
 | _=>none
noncomputable def Zlt:Kn1:=fun args h=>match args with
 | [.c (.int .i64 i),.g [.int .i64 a,.int .i64 b,.int .i64 c],.c (.fn f [some (p,0)] [])]=>(J4 i).bind fun i=>(J4 a).bind fun a=>(J4 b).bind fun b=>(J4 c).bind fun c=>(Fx h p).bind fun x=>Y2 (Nat.beq f 93&&decide (i+6≤256)&&decide (a<65536)&&decide (b<65536)&&decide (c<65536)) (some (.tup [],h.put p (.row 256 [pgL (Zrn (unN x) i a b c)] false)))
 | _=>none
noncomputable def Z6b:Kn1:=fun args h=>match args with
 | [.c (.int .i64 i),.c (.fn f [some (p,0)] [])]=>(J4 i).bind fun i=>(Fx h p).bind fun x=>Y2 (Nat.beq f 129&&decide (i+6≤256)) (some (.w (.g [.int .i64 ((Gj (unN x) i:Nat):Int),.int .i64 ((Gj (unN x) (i+2):Nat):Int),.int .i64 ((Gj (unN x) (i+4):Nat):Int)]),h))
 | _=>none
noncomputable def Zgy:Kn1:=fun args h=>match args with
 | [.g [.int .i64 a,.int .i64 b,.int .i64 c,.int .i64 d,.int .u32 z]]=>Zbc a b c d fun _ _ _ _=>Y2 (decide (z=0)) (some (.w (.c (.bool true)),h))
 | _=>none
def Yak (dt ino:Nat):List C→Bool
 | [.int .i64 x,.int .i64 y,.int .i64 z]=>decide (0≤x)&&decide (x≤(dt:Int))&&decide (0≤y)&&decide (y≤(ino:Int))&&decide (0≤z)&&decide (z≤(ino:Int) - y)
 | _=>false
theorem Za2 {dt ino:Nat} {l:List C} (e:Yak dt ino l=true):∃ x y z:Int,l=[.int .i64 x,.int .i64 y,.int .i64 z]∧0≤x∧x≤(dt:Int)∧0≤y∧y≤(ino:Int)∧0≤z∧z≤(ino:Int) - y:=by
 unfold Yak at e
 split at e
 ·simp only[Bool.and_eq_true,decide_eq_true_eq] at e
  obtain⟨⟨⟨⟨⟨e1,e2⟩,e3⟩,e4⟩,e5⟩,e6⟩:=e
  exact⟨_,_,_,rfl,e1,e2,e3,e4,e5,e6⟩
 ·cases e
noncomputable def Zxf:Kn1:=fun args h=>match args with
 | [.g [.int .i64 a,.int .i64 b,.int .i64 c,.int .i64 d],.c (.slice n 0 len 3)]=>Zbc a b c d fun a b c _=>match h.get n with
  | some (.row s L _)=>Y2 (Nat.beq s 3&&Nat.beq len a&&Nat.beq L.length a&&L.all (Yak (b - 2 - c / 4) c)) (some (.w (.c (.bool true)),h))
  | _=>none
 | _=>none
attribute [go_sem] Zq9 Zlt Z6b Zgy Zxf Zzf Zzh Zrb Zqb Yak
theorem Yai (p o l:Nat):Ud K 83 (.c (.slice p o l 3))=true:=by kernel_rfl
attribute [go_sem] Yai
theorem Z6p {b:Nat} (ns:List Nat):Z3c b (.row 256 [pgL ns] false):=Zpw fun τ _=>by
 show [(pgL ns).map (C.ren τ)]=_
 rw[U4 (fun a ha=>C.Ji ha _) (Nz ns)]
section
variable (Hh:Hearts K Tryz.prog)
include Hh
theorem Zx3 {args:List W} {h h':Go.Ev.H} {v:V} (e:Zq9 args h=some (v,h')):Zd K Tryz.prog 94 args h v h':=by
 unfold Zq9 at e
 split at e
 ·rename_i p
  obtain⟨a,b,c,d,rfl,rfl,rfl,rfl,f,e⟩:=Gq e
  obtain⟨g1,g2,g3,g4,g5,g6,g7,g8,g9,g10,g11⟩:=Yn f
  obtain⟨x,hx,e⟩:=Zo e
  obtain⟨ns,rfl,hl,hp⟩:=U8 hx
  obtain⟨b1,e⟩:=Zu.1 e
  cases e
  obtain rfl:=Nat.eq_of_beq_eq_true b1
  rw[Rn,Zzf]
  unfold Znh
  refine Zd.tidy ⟨Tryz.f94,Tryz.func94,by kernel_rfl,by decide⟩ fun tidy=>?_
  have lp:=tidy _ _ hp
  have pp:=@H.Zeg
  obtain⟨v,h',cc,rfl,hk⟩:∃ v h',Zd K Tryz.prog 94 [.g [.int .i64 (a:Int),.int .i64 (b:Int),.int .i64 (c:Int),.int .i64 (d:Int)],.c (.fn 93 [some (p,0)] [])] h v h'∧v=.tup []∧∀ m,m<h.next→h'.get m=(h.put p (.row 256 [pgL (Ut (Ut (Ut (Ut ns 8 a) 10 b) 12 c) 14 d)] false)).get m:=by
   refine Zd.Ya fits Hh (by kernel_rfl) (by kernel_rfl) (by kernel_rfl) (show Tryz.f94.body=some _ from rfl) rfl ?_
   repeat (first
    | refine Goes.seq ?_
    | refine Goes.block ?_
    | refine Goes.loop ?_
    | refine Goes.skip ?_
    | refine Goes.exit ?_
    | refine Goes.ret ?_
    | refine Goes.Z4 (by simp (maxSteps:=9^6) +decide (disch:=first|omega|(simp only[lens]<;>omega)|decide) only [go_sem,Zc,Za,simprocAttr,hp,hl,pp,read1,List.map_cons,Oi,List.cons_append]<;>rfl) ?_
    | refine Goes.ops2 fits Hh (Zf Zb (fun _ _ _ _=>Zml Hh)) (by simp (maxSteps:=9^6) +decide (disch:=first|omega|(simp only[lens]<;>omega)|decide) only [go_sem,Zc,Za,simprocAttr,hp,hl,pp,read1,List.map_cons,Oi,List.cons_append]; rfl) ?_)
   exact⟨_,_,(by simp (maxSteps:=9^6) +decide (disch:=first|omega|(simp only[lens]<;>omega)|decide) only [go_sem,Zc,Za,simprocAttr]<;>rfl),rfl,fun m hm=>by (first|(simp (discharger:=omega) only [H.get_put,H.Zh,H.Zk,H.Ze,H.Zg,H.Zj,if_neg]; done)|(simp only[H.get_put,H.Zh,H.Zk,H.Ze,H.Zg,H.Zj]; (repeat' split)<;>first|rfl|(exfalso; omega)|omega))⟩
  exact cc.settle ((Ri.refl tidy).put lp (Z6p _)) (Zhv.flat rfl) hk
 ·cases e
theorem Zup {args:List W} {h h':Go.Ev.H} {v:V} (e:Zlt args h=some (v,h')):Zd K Tryz.prog 97 args h v h':=by
 unfold Zlt at e
 split at e
 ·rename_i p
  obtain⟨i,hi,e⟩:=Zo e
  obtain⟨a,ha,e⟩:=Zo e
  obtain⟨b,hb,e⟩:=Zo e
  obtain⟨c,hc,e⟩:=Zo e
  obtain⟨x,hx,e⟩:=Zo e
  obtain⟨ns,rfl,hl,hp⟩:=U8 hx
  obtain⟨q,e⟩:=Zu.1 e
  simp only[Bool.and_eq_true,decide_eq_true_eq] at q
  obtain⟨⟨⟨⟨q1,q2⟩,q3⟩,q4⟩,q5⟩:=q
  cases e
  obtain rfl:=Nat.eq_of_beq_eq_true q1
  rw[Z6 hi,Z6 ha,Z6 hb,Z6 hc,Rn,Zzh]
  have e2:(i:Int)+2=((i+2:Nat):Int):=rfl
  have e4:(i:Int)+4=((i+4:Nat):Int):=rfl
  unfold Zrn
  refine Zd.tidy ⟨Tryz.f97,Tryz.func97,by kernel_rfl,by decide⟩ fun tidy=>?_
  have lp:=tidy _ _ hp
  have pp:=@H.Zeg
  obtain⟨v,h',cc,rfl,hk⟩:∃ v h',Zd K Tryz.prog 97 [.c (.int .i64 (i:Int)),.g [.int .i64 (a:Int),.int .i64 (b:Int),.int .i64 (c:Int)],.c (.fn 93 [some (p,0)] [])] h v h'∧v=.tup []∧∀ m,m<h.next→h'.get m=(h.put p (.row 256 [pgL (Ut (Ut (Ut ns i a) (i+2) b) (i+4) c)] false)).get m:=by
   refine Zd.Ya fits Hh (by kernel_rfl) (by kernel_rfl) (by kernel_rfl) (show Tryz.f97.body=some _ from rfl) rfl ?_
   repeat (first
    | refine Goes.seq ?_
    | refine Goes.block ?_
    | refine Goes.loop ?_
    | refine Goes.skip ?_
    | refine Goes.exit ?_
    | refine Goes.ret ?_
    | refine Goes.Z4 (by simp (maxSteps:=9^6) +decide (disch:=first|omega|(simp only[lens]<;>omega)|decide) only [go_sem,Zc,Za,simprocAttr,hp,hl,e2,e4,pp,read1,List.map_cons,Oi,List.cons_append]<;>rfl) ?_
    | refine Goes.ops2 fits Hh (Zf Zb (fun _ _ _ _=>Zml Hh)) (by simp (maxSteps:=9^6) +decide (disch:=first|omega|(simp only[lens]<;>omega)|decide) only [go_sem,Zc,Za,simprocAttr,hp,hl,e2,e4,pp,read1,List.map_cons,Oi,List.cons_append]; rfl) ?_)
   exact⟨_,_,(by simp (maxSteps:=9^6) +decide (disch:=first|omega|(simp only[lens]<;>omega)|decide) only [go_sem,Zc,Za,simprocAttr]<;>rfl),rfl,fun m hm=>by (first|(simp (discharger:=omega) only [H.get_put,H.Zh,H.Zk,H.Ze,H.Zg,H.Zj,if_neg]; done)|(simp only[H.get_put,H.Zh,H.Zk,H.Ze,H.Zg,H.Zj]; (repeat' split)<;>first|rfl|(exfalso; omega)|omega))⟩
  exact cc.settle ((Ri.refl tidy).put lp (Z6p _)) (Zhv.flat rfl) hk
 ·cases e
theorem Zpk {args:List W} {h h':Go.Ev.H} {v:V} (e:Zgy args h=some (v,h')):Zd K Tryz.prog 91 args h v h':=by
 unfold Zgy at e
 split at e
 ·obtain⟨a,b,c,d,rfl,rfl,rfl,rfl,f,e⟩:=Gq e
  obtain⟨g1,g2,g3,g4,g5,g6,g7,g8,g9,g10,g11⟩:=Yn f
  obtain⟨q,e⟩:=Zu.1 e
  cases e
  obtain rfl:=of_decide_eq_true q
  have b1:a * c≤4 * 64:=Nat.mul_le_mul (by omega) (by omega)
  obtain⟨v,h',cc,rfl,hk⟩:∃ v h',Zd K Tryz.prog 91 [.g [.int .i64 (a:Int),.int .i64 (b:Int),.int .i64 (c:Int),.int .i64 (d:Int),.int .u32 0]] h v h'∧v=.w (.c (.bool true))∧∀ m,m<h.next→h'.get m=h.get m:=by
   refine Zd.Ya fits Hh (by kernel_rfl) (by kernel_rfl) (by kernel_rfl) (show Tryz.f91.body=some _ from rfl) rfl ?_
   repeat (first
    | refine Goes.seq ?_
    | refine Goes.block ?_
    | refine Goes.loop ?_
    | refine Goes.skip ?_
    | refine Goes.exit ?_
    | refine Goes.ret ?_
    | refine Goes.Z4 (by simp (maxSteps:=9^6) +decide (disch:=first|omega|(simp only[lens]<;>omega)|decide) only [go_sem,Zc,Za,simprocAttr,f,read1,Zn]<;>rfl) ?_
    | refine Goes.ops2 fits Hh (Zf Zb (fun _ _ _ _=>Gv Hh)) (by simp (maxSteps:=9^6) +decide (disch:=first|omega|(simp only[lens]<;>omega)|decide) only [go_sem,Zc,Za,simprocAttr,f,read1,Zn]; rfl) ?_
    | refine Goes.drawn2 fits Hh (Zf Zb (fun _ _ _ _=>Gv Hh)) (by kernel_rfl) (by simp (maxSteps:=9^6) +decide (disch:=first|omega|(simp only[lens]<;>omega)|decide) only [go_sem,Zc,Za,simprocAttr,U2,Je,Ju,Ux,Y9,Uv,Jp,Yw,Jt,Uy,Gg,Jy,Yq,Y1,Yu,Yv,J2,Jb,Jf,Yx,Y8,Jz,Bh,O8,Gu,Rl,R8,Ot,Oj,Uh,G7,Oq,Oc,Uw,Jd,Uo,looks,En,Op.operands,Call.operands,kd,Ox,List.filterMap_cons,List.filterMap_nil,List.append_nil,List.nil_append,List.cons_append,Jk,stable,J5,Oa,Uu,waits,Ja,List.all_cons,List.all_nil,List.any_cons,List.any_nil,Region.binds,Bool.or_true,Bool.true_or,Bool.and_true,Bool.true_and,Bool.or_false,Bool.false_or,Bool.and_self,Bool.or_self,Jq,Nat.le_refl,Nat.le_add_right,List.map_cons,Array.toList_append,f,read1,Zn]; rfl) ?_)
   exact⟨_,_,(by simp (maxSteps:=9^6) +decide (disch:=first|omega|(simp only[lens]<;>omega)|decide) only [go_sem,Zc,Za,simprocAttr]<;>rfl),rfl,fun m hm=>by (first|(simp (discharger:=omega) only [H.get_put,H.Zh,H.Zk,H.Ze,H.Zg,H.Zj,if_neg]; done)|(simp only[H.get_put,H.Zh,H.Zk,H.Ze,H.Zg,H.Zj]; (repeat' split)<;>first|rfl|(exfalso; omega)|omega))⟩
  exact cc.quiet rfl hk
 ·cases e
theorem Z3e {args:List W} {h h':Go.Ev.H} {v:V} (e:Zxf args h=some (v,h')):Zd K Tryz.prog 96 args h v h':=by
 unfold Zxf at e
 split at e
 ·rename_i n len
  obtain⟨a,b,c,d,rfl,rfl,rfl,rfl,f,e⟩:=Gq e
  split at e
  ·rename_i s L ro heq
   obtain⟨q,e⟩:=Zu.1 e
   cases e
   simp only[Bool.and_eq_true] at q
   obtain⟨⟨⟨q1,q2⟩,q3⟩,q4⟩:=q
   obtain rfl:=Nat.eq_of_beq_eq_true q1
   obtain rfl:=Nat.eq_of_beq_eq_true q2
   have q3:=Nat.eq_of_beq_eq_true q3
   have q4:=List.all_eq_true.1 q4
   have F:=Yn f
   obtain⟨g1,g2,g3,g4,g5,g6,g7,g8,g9,g10,g11⟩:=F
   refine Zd.tidy ⟨Tryz.f96,Tryz.func96,by kernel_rfl,by decide⟩ fun tidy=>?_
   have l1:=tidy _ _ heq
   obtain⟨v,h',cc,rfl,hk⟩:∃ v h',Zd K Tryz.prog 96 [.g [.int .i64 (len:Int),.int .i64 (b:Int),.int .i64 (c:Int),.int .i64 (d:Int)],.c (.slice n 0 len 3)] h v h'∧v=.w (.c (.bool true))∧∀ m,m<h.next→h'.get m=h.get m:=by
    rcases L with _|⟨r0,_|⟨r1,_|⟨r2,_|⟨r3,_|⟨r4,L⟩⟩⟩⟩⟩
    ·simp only[List.length_nil] at q3; omega
    rotate_right
    ·simp only[List.length_cons] at q3; omega
    all_goals
     simp only[List.length_cons,List.length_nil] at q3
     subst q3
     obtain⟨x0,y0,z0,rfl,a1,a2,a3,a4,a5,a6⟩:=Za2 (q4 r0 (by simp))
     try obtain⟨x1,y1,z1,rfl,b1,b2,b3,b4,b5,b6⟩:=Za2 (q4 r1 (by simp))
     try obtain⟨x2,y2,z2,rfl,c1,c2,c3,c4,c5,c6⟩:=Za2 (q4 r2 (by simp))
     try obtain⟨x3,y3,z3,rfl,d1,d2,d3,d4,d5,d6⟩:=Za2 (q4 r3 (by simp))
     refine Zd.Ya fits Hh (by kernel_rfl) (by kernel_rfl) (by kernel_rfl) (show Tryz.f96.body=some _ from rfl) rfl ?_
     repeat (first
      | refine Goes.seq ?_
      | refine Goes.block ?_
      | refine Goes.loop ?_
      | refine Goes.skip ?_
      | refine Goes.exit ?_
      | refine Goes.ret ?_
      | refine Goes.Z4 (by simp (maxSteps:=9^6) +decide (disch:=first|omega|(simp only[lens]<;>omega)|decide) only [go_sem,Zc,Za,simprocAttr,f,heq,read1,Zn,Zm,Yz]<;>rfl) ?_
      | refine Goes.ops2 fits Hh (Zf Zb (fun _ _ _ _=>Zgo Hh)) (by simp (maxSteps:=9^6) +decide (disch:=first|omega|(simp only[lens]<;>omega)|decide) only [go_sem,Zc,Za,simprocAttr,f,heq,read1,Zn,Zm,Yz]; rfl) ?_)
     exact⟨_,_,(by simp (maxSteps:=9^6) +decide (disch:=first|omega|(simp only[lens]<;>omega)|decide) only [go_sem,Zc,Za,simprocAttr]<;>rfl),rfl,fun m hm=>by (first|(simp (discharger:=omega) only [H.get_put,H.Zh,H.Zk,H.Ze,H.Zg,H.Zj,if_neg]; done)|(simp only[H.get_put,H.Zh,H.Zk,H.Ze,H.Zg,H.Zj]; (repeat' split)<;>first|rfl|(exfalso; omega)|omega))⟩
   exact cc.quiet rfl hk
  ·cases e
 ·cases e
end
end Go.Proofs.YtmdibcklpmeleaaGreatDoor
set_option maxRecDepth 100000
set_option maxHeartbeats 4000000
namespace Go.Proofs.YtmdibcklpmeleaaGreatDoor
open Go.Ev
def Zfh:List Nat:=List.replicate 256 0
def Zas (ns:List Nat):List Nat:=Uk ns 252 (Zik ns)
abbrev Zba:=Nat × Nat × Nat
def Zh5 (d:Zba):List C:=[.int .i64 (d.1:Int),.int .i64 (d.2.1:Int),.int .i64 (d.2.2:Int)]
def Zru:List Zba→Nat→List Nat→List Nat
 | [],_,x=>x
 | d :: D,i,x=>Zru D (i+8) (Zrn x i d.1 d.2.1 d.2.2)
def getD (ns:List Nat) (i:Nat):Zba:=(Gj ns i,Gj ns (i+2),Gj ns (i+4))
def Zod (ns:List Nat):Nat→Nat→List Zba
 | 0,_=>[]
 | k+1,i=>getD ns i :: Zod ns k (i+8)
theorem zPg:List.replicate 256 (C.int .u8 0)=pgL Zfh:=by kernel_rfl
theorem Zim:Zfh.length=256:=by kernel_rfl
theorem Zo1:∀ D:List Zba,(D.map Zh5).all (fun l=>l.all C.flat)=true
 | []=>rfl
 | _ :: D=>Zo1 D
theorem Znx:(∀ ns:List Nat,(pgL ns).length=ns.length)∧(∀ (ns:List Nat) (i v:Nat),(Ut ns i v).length=ns.length)∧(∀ (ns:List Nat) (i v:Nat),(Uk ns i v).length=ns.length)∧(∀ (ns:List Nat) (a b c d:Nat),(Znh ns a b c d).length=ns.length)∧(∀ (ns:List Nat) (i a b c:Nat),(Zrn ns i a b c).length=ns.length):=⟨Et,Yt,Ye,Zrb,Zqb⟩
theorem Z07 {ns:List Nat} (h:ns.length≤256∧256≤ns.length):Zc 256 [pgL ns] 0 256=some (pgL ns):=X3 (by rw[Et]; omega)
theorem Ybo {ns:List Nat} {x:List C} (h:(ns.length≤256∧256≤ns.length)∧x.length≤256∧256≤x.length):Zx 256 [x] 0 (pgL ns)=some [pgL ns]:=Su (by rw[Et]; omega)
theorem rd4 (a b c d:C):Zc 4 [[a,b,c,d]] 0 4=some [a,b,c,d]:=rfl
theorem rd30 (x y z:C) (L:List (List C)):Zc 3 ([x,y,z] :: L) 0 3=some [x,y,z]:=rfl
theorem rd31 (r0:List C) (x y z:C) (L:List (List C)):Zc 3 (r0 :: [x,y,z] :: L) 3 3=some [x,y,z]:=rfl
theorem rd32 (r0 r1:List C) (x y z:C) (L:List (List C)):Zc 3 (r0 :: r1 :: [x,y,z] :: L) 6 3=some [x,y,z]:=rfl
theorem rd33 (r0 r1 r2:List C) (x y z:C) (L:List (List C)):Zc 3 (r0 :: r1 :: r2 :: [x,y,z] :: L) 9 3=some [x,y,z]:=rfl
theorem wr30 (x y z a b c:C) (L:List (List C)):Zx 3 ([x,y,z] :: L) 0 [a,b,c]=some ([a,b,c] :: L):=rfl
theorem wr31 (r0:List C) (x y z a b c:C) (L:List (List C)):Zx 3 (r0 :: [x,y,z] :: L) 3 [a,b,c]=some (r0 :: [a,b,c] :: L):=rfl
theorem wr32 (r0 r1:List C) (x y z a b c:C) (L:List (List C)):Zx 3 (r0 :: r1 :: [x,y,z] :: L) 6 [a,b,c]=some (r0 :: r1 :: [a,b,c] :: L):=rfl
theorem wr33 (r0 r1 r2:List C) (x y z a b c:C) (L:List (List C)):Zx 3 (r0 :: r1 :: r2 :: [x,y,z] :: L) 9 [a,b,c]=some (r0 :: r1 :: r2 :: [a,b,c] :: L):=rfl
def Z8l (a b c d:Nat):List Nat:=Zas (Uk (Znh (Ut (Ut (Uk Zfh 0 827216465) 4 1) 6 256) a b c d) 16 0)
noncomputable def Yff:Kn1:=fun args h=>match args with
 | [.g [.int .i64 a,.int .i64 b,.int .i64 c,.int .i64 d,.int .u32 z]]=>Zbc a b c d fun a b c d=>Y2 (decide (z=0)&&Di (h.get 0)) (some (.tup [.g (pgL (Z8l a b c d)),.c (.int .i64 0)],h))
 | _=>none
attribute [go_sem] Yff
theorem Z4a (a b c d:Nat):(Z8l a b c d).length=256:=by
 have zl:=Zim
 simp only[Z8l,Zas,Ye,Zrb,Yt,zl]
section
variable (Hh:Hearts K Tryz.prog)
include Hh
theorem Z9n {args:List W} {h h':Go.Ev.H} {v:V} (e:Yff args h=some (v,h')):Zd K Tryz.prog 51 args h v h':=by
 unfold Yff at e
 split at e
 ·rename_i z
  obtain⟨a,b,c,d,rfl,rfl,rfl,rfl,f,e⟩:=Gq e
  obtain⟨q,e⟩:=Zu.1 e
  cases e
  rw[Bool.and_eq_true] at q
  obtain rfl:=of_decide_eq_true q.1
  have hst:=Fa q.2
  unfold Z8l
  obtain⟨g1,g2,g3,g4,g5,g6,g7,g8,g9,g10,g11⟩:=Yn f
  obtain⟨Z,hZ⟩:∃ Z,Zfh=Z:=⟨_,rfl⟩
  have z0:=zPg
  have zl:=Zim
  rw[hZ] at z0 zl ⊢
  have r5:Zc 5 [[.int .i64 (a:Int),.int .i64 (b:Int),.int .i64 (c:Int),.int .i64 (d:Int),.int .u32 0]] 0 4=some [.int .i64 (a:Int),.int .i64 (b:Int),.int .i64 (c:Int),.int .i64 (d:Int)]:=rfl
  refine Zd.tidy ⟨Tryz.f51,Tryz.func51,by kernel_rfl,by decide⟩ fun tidy=>?_
  have l0:=tidy _ _ hst
  obtain⟨v,h',cc,ns,rfl,hl,hk⟩:∃ v h',Zd K Tryz.prog 51 [.g [.int .i64 (a:Int),.int .i64 (b:Int),.int .i64 (c:Int),.int .i64 (d:Int),.int .u32 0]] h v h'∧∃ ns,v=.tup [.g (pgL ns),.c (.int .i64 0)]∧ns=Zas (Uk (Znh (Ut (Ut (Uk Z 0 827216465) 4 1) 6 256) a b c d) 16 0)∧∀ m,m<h.next→h'.get m=h.get m:=by
   refine Zd.Ya fits Hh (by kernel_rfl) (by kernel_rfl) (by kernel_rfl) (show Tryz.f51.body=some _ from rfl) rfl ?_
   repeat (first
    | refine Goes.seq ?_
    | refine Goes.block ?_
    | refine Goes.loop ?_
    | refine Goes.skip ?_
    | refine Goes.exit ?_
    | refine Goes.ret ?_
    | refine Goes.Z4 (by simp (maxSteps:=9^6) +decide (disch:=first|omega|(simp only[lens,Znx]<;>omega)|decide) only [go_sem,Za,simprocAttr,f,hst,z0,zl,r5,Z07,Ybo,read1,Zn]<;>rfl) ?_
    | refine Goes.ops2 fits Hh (Zf (Zf (Zf (Zf (Zf (Zf Zb (fun _ _ _ _=>O4 Hh)) (fun _ _ _ _=>Zpk Hh)) (fun _ _ _ _=>Zoe Hh)) (fun _ _ _ _=>Zml Hh)) (fun _ _ _ _=>Zx3 Hh)) (fun _ _ _ _=>Zow Hh)) (by simp (maxSteps:=9^6) +decide (disch:=first|omega|(simp only[lens,Znx]<;>omega)|decide) only [go_sem,Za,simprocAttr,f,hst,z0,zl,r5,Z07,Ybo,read1,Zn]; rfl) ?_)
   exact⟨_,_,(by simp (maxSteps:=9^6) +decide (disch:=first|omega|(simp only[lens,Znx]<;>omega)|decide) only [go_sem,Za,simprocAttr,zl,Z07]<;>rfl),_,rfl,(by simp only[Zas]),fun m hm=>by (first|(simp (discharger:=omega) only [H.get_put,H.Zh,H.Zk,H.Ze,H.Zg,H.Zj,if_neg]; done)|(simp only[H.get_put,H.Zh,H.Zk,H.Ze,H.Zg,H.Zj]; (repeat' split)<;>first|rfl|(exfalso; omega)|omega))⟩
  rw[←hl]
  exact cc.quiet (by simp only[V.flat,W.flat,List.all_cons,Nz]; rfl) hk
 ·cases e
end
end Go.Proofs.YtmdibcklpmeleaaGreatDoor
