/- super: geometries and descriptors handed on. -/
import Derived.Test.YtngejdlimkgjfaaGreatDoorPge
import Derived.Test.YtngejdlimkgjfaaGreatDoorInd
set_option linter.unusedSimpArgs false
set_option linter.unusedVariables false
set_option linter.unusedSectionVars false
set_option maxRecDepth 100000
set_option maxHeartbeats 4000000
namespace Go.Proofs.YtngejdlimkgjfaaGreatDoor
open Go.Ev
theorem ty80:K.types.get 80=some ti80:=by kernel_rfl
theorem sz80:ti80.size=1:=by rfl
theorem ag80:ti80.agg=false:=by rfl
theorem de80:ti80.desc=(.slice 90):=by rfl
theorem ze80:ti80.zero=(.c (.snil)):=by rfl
theorem by80:ti80.bytes=24:=by rfl
theorem el80:J3 K 80=some ti90:=by kernel_rfl
theorem ty90:K.types.get 90=some ti90:=by kernel_rfl
theorem sz90:ti90.size=3:=by rfl
theorem ag90:ti90.agg=true:=by rfl
theorem fo90_0:Zu K 90 0=some (0,ti3):=by kernel_rfl
theorem fo90_1:Zu K 90 1=some (1,ti3):=by kernel_rfl
theorem fo90_2:Zu K 90 2=some (2,ti3):=by kernel_rfl
theorem bu90 (ps:List (Nat × W)):Yq K 90 (some ps)=gW (Yb K 90 ps ti90.zero.cells):=by kernel_rfl
theorem ze90:ti90.zero=(.g ([.int .i64 0,.int .i64 0,.int .i64 0])):=by rfl
theorem by90:ti90.bytes=24:=by rfl
theorem ty106:K.types.get 106=some ti106:=by kernel_rfl
theorem sz106:ti106.size=5:=by rfl
theorem ag106:ti106.agg=true:=by rfl
theorem fo106_0:Zu K 106 0=some (0,ti23):=by kernel_rfl
theorem fo106_1:Zu K 106 1=some (4,ti27):=by kernel_rfl
theorem bu106 (ps:List (Nat × W)):Yq K 106 (some ps)=gW (Yb K 106 ps ti106.zero.cells):=by kernel_rfl
theorem ze106:ti106.zero=(.g ([.int .i64 0,.int .i64 0,.int .i64 0,.int .i64 0,.int .u32 0])):=by rfl
theorem by106:ti106.bytes=40:=by rfl
theorem ty217:K.types.get 217=some ti217:=by kernel_rfl
theorem sz217:ti217.size=1:=by rfl
theorem ag217:ti217.agg=false:=by rfl
theorem de217:ti217.desc=(.int .u64):=by rfl
theorem ze217:ti217.zero=(.c (.int .u64 0)):=by rfl
theorem by217:ti217.bytes=8:=by rfl
theorem ke217 (k:IntKind) (n:Int):Es K 20 217 (.c (.int k n))=true:=by kernel_rfl
attribute [go_sem] ty80 sz80 ag80 de80 ze80 by80 el80 ty90 sz90 ag90 fo90_0 fo90_1 fo90_2 bu90 ze90 by90 ty106 sz106 ag106 fo106_0 fo106_1 bu106 ze106 by106 ty217 sz217 ag217 de217 ze217 by217 ke217
theorem rs100:Tryz.f100.results.toList=[]:=rfl
theorem rs103:Tryz.f103.results.toList=[]:=rfl
theorem rs129:Tryz.f129.results.toList=[.cell 4 90]:=rfl
theorem rs97:Tryz.f97.results.toList=[.tmp 2]:=rfl
theorem rs54:Tryz.f54.results.toList=[.cell 2 47,.tmp 3]:=rfl
theorem rs102:Tryz.f102.results.toList=[.tmp 4]:=rfl
attribute [go_sem] rs100 rs103 rs129 rs97 rs54 rs102
def Ziu (ns:List Nat) (a b c d:Nat):List Nat:=Oe (Oe (Oe (Oe ns 8 a) 10 b) 12 c) 14 d
def Zmm (ns:List Nat) (i a b c:Nat):List Nat:=Oe (Oe (Oe ns i a) (i+2) b) (i+4) c
theorem Zs9 (ns:List Nat) (i v:Nat):pgL (Oe ns i v)=((pgL ns).set i (.int .u8 ((v % 256:Nat):Int))).set (i+1) (.int .u8 ((v / 256 % 256:Nat):Int)):=by rw[Le,Le]; rfl
theorem Zsr (ns:List Nat) (a b c d:Nat):pgL (Ziu (ns.map (· % 256)) a b c d)=pgL (Ziu ns a b c d):=by simp only[Ziu,Zs9,Zrg]
theorem Zsz (ns:List Nat) (i a b c:Nat):pgL (Zmm (ns.map (· % 256)) i a b c)=pgL (Zmm ns i a b c):=by simp only[Zmm,Zs9,Zrg]
theorem Zli (ns:List Nat) (a b c d:Nat):(Ziu ns a b c d).length=ns.length:=by simp only[Ziu,Yz]
theorem Zld (ns:List Nat) (i a b c:Nat):(Zmm ns i a b c).length=ns.length:=by simp only[Zmm,Yz]
noncomputable def Zlc:Kn1:=fun args h=>match args with
 | [.g [.int .i64 a,.int .i64 b,.int .i64 c,.int .i64 d],.c (.fn f [some (p,0)] [])]=>Q5 a b c d fun a b c d=>(Eu h p).bind fun x=>Y9 (Nat.beq f 99) (some (.tup [],h.put p (.row 256 [pgL (Ziu (unN x) a b c d)] false)))
 | _=>none
noncomputable def Zgb:Kn1:=fun args h=>match args with
 | [.c (.int .i64 i),.g [.int .i64 a,.int .i64 b,.int .i64 c],.c (.fn f [some (p,0)] [])]=>(Ul i).bind fun i=>(Ul a).bind fun a=>(Ul b).bind fun b=>(Ul c).bind fun c=>(Eu h p).bind fun x=>Y9 (Nat.beq f 99&&decide (i+6≤256)&&decide (a<65536)&&decide (b<65536)&&decide (c<65536)) (some (.tup [],h.put p (.row 256 [pgL (Zmm (unN x) i a b c)] false)))
 | _=>none
noncomputable def Zg3:Kn1:=fun args h=>match args with
 | [.c (.int .i64 i),.c (.fn f [some (p,0)] [])]=>(Ul i).bind fun i=>(Eu h p).bind fun x=>Y9 (Nat.beq f 130&&decide (i+6≤256)) (some (.w (.g [.int .i64 ((U7 (unN x) i:Nat):Int),.int .i64 ((U7 (unN x) (i+2):Nat):Int),.int .i64 ((U7 (unN x) (i+4):Nat):Int)]),h))
 | _=>none
noncomputable def Zd8:Kn1:=fun args h=>match args with
 | [.g [.int .i64 a,.int .i64 b,.int .i64 c,.int .i64 d,.int .u32 z]]=>Q5 a b c d fun _ _ _ _=>Y9 (decide (z=0)) (some (.w (.c (.bool true)),h))
 | _=>none
def Zrs (dt ino:Nat):List C→Bool
 | [.int .i64 x,.int .i64 y,.int .i64 z]=>decide (0≤x)&&decide (x≤(dt:Int))&&decide (0≤y)&&decide (y≤(ino:Int))&&decide (0≤z)&&decide (z≤(ino:Int) - y)
 | _=>false
theorem Lb {dt ino:Nat} {l:List C} (e:Zrs dt ino l=true):∃ x y z:Int,l=[.int .i64 x,.int .i64 y,.int .i64 z]∧0≤x∧x≤(dt:Int)∧0≤y∧y≤(ino:Int)∧0≤z∧z≤(ino:Int) - y:=by
 unfold Zrs at e
 split at e
 ·simp only[Bool.and_eq_true,decide_eq_true_eq] at e
  obtain⟨⟨⟨⟨⟨e1,e2⟩,e3⟩,e4⟩,e5⟩,e6⟩:=e
  exact⟨_,_,_,rfl,e1,e2,e3,e4,e5,e6⟩
 ·cases e
noncomputable def Zpu:Kn1:=fun args h=>match args with
 | [.g [.int .i64 a,.int .i64 b,.int .i64 c,.int .i64 d],.c (.slice n 0 len 3)]=>Q5 a b c d fun a b c _=>match h.get n with
  | some (.row s L _)=>Y9 (Nat.beq s 3&&Nat.beq len a&&Nat.beq L.length a&&L.all (Zrs (b - 2 - c / 4) c)) (some (.w (.c (.bool true)),h))
  | _=>none
 | _=>none
attribute [go_sem] Zlc Zgb Zg3 Zd8 Zpu Zsr Zsz Zli Zld Zrs
theorem Z09 (p o l:Nat):Un K 80 (.c (.slice p o l 3))=true:=by kernel_rfl
attribute [go_sem] Z09
theorem Zv9 {b:Nat} (ns:List Nat):Zvx b (.row 256 [pgL ns] false):=Zmd fun τ _=>by
 show [(pgL ns).map (C.ren τ)]=_
 rw[Ol (fun a ha=>C.Jy ha _) (Fs ns)]
section
variable (Hh:Hearts K Tryz.prog)
include Hh
theorem Zqu {args:List W} {h h':Go.Ev.H} {v:V} (e:Zlc args h=some (v,h')):Ze K Tryz.prog 100 args h v h':=by
 unfold Zlc at e
 split at e
 ·rename_i p
  obtain⟨a,b,c,d,rfl,rfl,rfl,rfl,f,e⟩:=Ov e
  obtain⟨g1,g2,g3,g4,g5,g6,g7,g8,g9,g10,g11⟩:=Z0 f
  obtain⟨x,hx,e⟩:=Zo e
  obtain⟨ns,rfl,hl,hp⟩:=Jw hx
  obtain⟨b1,e⟩:=Zv.1 e
  cases e
  obtain rfl:=Nat.eq_of_beq_eq_true b1
  rw[Bf,Zsr]
  unfold Ziu
  refine Ze.tidy ⟨Tryz.f100,Tryz.func100,by kernel_rfl,by decide⟩ fun tidy=>?_
  have lp:=tidy _ _ hp
  have pp:=@H.Vt
  obtain⟨v,h',cc,rfl,hk⟩:∃ v h',Ze K Tryz.prog 100 [.g [.int .i64 (a:Int),.int .i64 (b:Int),.int .i64 (c:Int),.int .i64 (d:Int)],.c (.fn 99 [some (p,0)] [])] h v h'∧v=.tup []∧∀ m,m<h.next→h'.get m=(h.put p (.row 256 [pgL (Oe (Oe (Oe (Oe ns 8 a) 10 b) 12 c) 14 d)] false)).get m:=by
   refine Ze.Z8 fits Hh (by kernel_rfl) (by kernel_rfl) (by kernel_rfl) (show Tryz.f100.body=some _ from rfl) rfl ?_
   repeat (first|apply Goes.seq|apply Goes.block|apply Goes.loop|apply Goes.skip|apply Goes.exit|apply Goes.ret|((first|apply Goes.Zr|apply Goes.ops2 fits Hh (Zh Zc (fun _ _ _ _=>Zg8 Hh))); · simp (maxSteps:=9^6) +decide (disch:=first|omega|(simp only[lens]<;>omega)|decide) only [go_sem,Zf,Za,simprocAttr,hp,hl,pp,read1,List.map_cons,Ed,List.cons_append]<;>rfl))
   exact⟨_,_,(by simp (maxSteps:=9^6) +decide (disch:=first|omega|(simp only[lens]<;>omega)|decide) only [go_sem,Zf,Za,simprocAttr]<;>rfl),rfl,fun m hm=>by (first|(simp (discharger:=omega) only [H.get_put,H.Zi,H.Zm,H.Zd,H.Zg,H.Zj,if_neg]; done)|(simp only[H.get_put,H.Zi,H.Zm,H.Zd,H.Zg,H.Zj]; (repeat' split)<;>first|rfl|(exfalso; omega)|omega))⟩
  exact cc.settle ((Np.refl tidy).put lp (Zv9 _)) (Ze9.flat rfl) hk
 ·cases e
theorem Zoc {args:List W} {h h':Go.Ev.H} {v:V} (e:Zgb args h=some (v,h')):Ze K Tryz.prog 103 args h v h':=by
 unfold Zgb at e
 split at e
 ·rename_i p
  obtain⟨i,hi,e⟩:=Zo e
  obtain⟨a,ha,e⟩:=Zo e
  obtain⟨b,hb,e⟩:=Zo e
  obtain⟨c,hc,e⟩:=Zo e
  obtain⟨x,hx,e⟩:=Zo e
  obtain⟨ns,rfl,hl,hp⟩:=Jw hx
  obtain⟨q,e⟩:=Zv.1 e
  simp only[Bool.and_eq_true,decide_eq_true_eq] at q
  obtain⟨⟨⟨⟨q1,q2⟩,q3⟩,q4⟩,q5⟩:=q
  cases e
  obtain rfl:=Nat.eq_of_beq_eq_true q1
  rw[Z6 hi,Z6 ha,Z6 hb,Z6 hc,Bf,Zsz]
  have e2:(i:Int)+2=((i+2:Nat):Int):=rfl
  have e4:(i:Int)+4=((i+4:Nat):Int):=rfl
  unfold Zmm
  refine Ze.tidy ⟨Tryz.f103,Tryz.func103,by kernel_rfl,by decide⟩ fun tidy=>?_
  have lp:=tidy _ _ hp
  have pp:=@H.Vt
  obtain⟨v,h',cc,rfl,hk⟩:∃ v h',Ze K Tryz.prog 103 [.c (.int .i64 (i:Int)),.g [.int .i64 (a:Int),.int .i64 (b:Int),.int .i64 (c:Int)],.c (.fn 99 [some (p,0)] [])] h v h'∧v=.tup []∧∀ m,m<h.next→h'.get m=(h.put p (.row 256 [pgL (Oe (Oe (Oe ns i a) (i+2) b) (i+4) c)] false)).get m:=by
   refine Ze.Z8 fits Hh (by kernel_rfl) (by kernel_rfl) (by kernel_rfl) (show Tryz.f103.body=some _ from rfl) rfl ?_
   repeat (first|apply Goes.seq|apply Goes.block|apply Goes.loop|apply Goes.skip|apply Goes.exit|apply Goes.ret|((first|apply Goes.Zr|apply Goes.ops2 fits Hh (Zh Zc (fun _ _ _ _=>Zg8 Hh))); · simp (maxSteps:=9^6) +decide (disch:=first|omega|(simp only[lens]<;>omega)|decide) only [go_sem,Zf,Za,simprocAttr,hp,hl,e2,e4,pp,read1,List.map_cons,Ed,List.cons_append]<;>rfl))
   exact⟨_,_,(by simp (maxSteps:=9^6) +decide (disch:=first|omega|(simp only[lens]<;>omega)|decide) only [go_sem,Zf,Za,simprocAttr]<;>rfl),rfl,fun m hm=>by (first|(simp (discharger:=omega) only [H.get_put,H.Zi,H.Zm,H.Zd,H.Zg,H.Zj,if_neg]; done)|(simp only[H.get_put,H.Zi,H.Zm,H.Zd,H.Zg,H.Zj]; (repeat' split)<;>first|rfl|(exfalso; omega)|omega))⟩
  exact cc.settle ((Np.refl tidy).put lp (Zv9 _)) (Ze9.flat rfl) hk
 ·cases e
theorem Zn4 {args:List W} {h h':Go.Ev.H} {v:V} (e:Zg3 args h=some (v,h')):Ze K Tryz.prog 129 args h v h':=by
 unfold Zg3 at e
 split at e
 ·rename_i p
  obtain⟨i,hi,e⟩:=Zo e
  obtain⟨x,hx,e⟩:=Zo e
  obtain⟨ns,rfl,hl,hp⟩:=Jw hx
  obtain⟨q,e⟩:=Zv.1 e
  simp only[Bool.and_eq_true,decide_eq_true_eq] at q
  obtain⟨q1,q2⟩:=q
  cases e
  obtain rfl:=Nat.eq_of_beq_eq_true q1
  rw[Z6 hi]
  simp only[Bf,Wo]
  have e2:(i:Int)+2=((i+2:Nat):Int):=rfl
  have e4:(i:Int)+4=((i+4:Nat):Int):=rfl
  refine Ze.tidy ⟨Tryz.f129,Tryz.func129,by kernel_rfl,by decide⟩ fun tidy=>?_
  have lp:=tidy _ _ hp
  obtain⟨v,h',cc,rfl,hk⟩:∃ v h',Ze K Tryz.prog 129 [.c (.int .i64 (i:Int)),.c (.fn 130 [some (p,0)] [])] h v h'∧v=.w (.g [.int .i64 ((U7 ns i:Nat):Int),.int .i64 ((U7 ns (i+2):Nat):Int),.int .i64 ((U7 ns (i+4):Nat):Int)])∧∀ m,m<h.next→h'.get m=h.get m:=by
   refine Ze.Z8 fits Hh (by kernel_rfl) (by kernel_rfl) (by kernel_rfl) (show Tryz.f129.body=some _ from rfl) rfl ?_
   repeat (first|apply Goes.seq|apply Goes.block|apply Goes.loop|apply Goes.skip|apply Goes.exit|apply Goes.ret|((first|apply Goes.Zr|apply Goes.ops2 fits Hh (Zh Zc (fun _ _ _ _=>Zyo Hh))); · simp (maxSteps:=9^6) +decide (disch:=first|omega|(simp only[lens]<;>omega)|decide) only [go_sem,Zf,Za,simprocAttr,hp,hl,e2,e4,read1,Z5,List.map_cons,Ed,List.cons_append]<;>rfl))
   exact⟨_,_,(by simp (maxSteps:=9^6) +decide (disch:=first|omega|(simp only[lens]<;>omega)|decide) only [go_sem,Zf,Za,simprocAttr]<;>rfl),rfl,fun m hm=>by (first|(simp (discharger:=omega) only [H.get_put,H.Zi,H.Zm,H.Zd,H.Zg,H.Zj,if_neg]; done)|(simp only[H.get_put,H.Zi,H.Zm,H.Zd,H.Zg,H.Zj]; (repeat' split)<;>first|rfl|(exfalso; omega)|omega))⟩
  exact cc.quiet rfl hk
 ·cases e
theorem Zmt {args:List W} {h h':Go.Ev.H} {v:V} (e:Zd8 args h=some (v,h')):Ze K Tryz.prog 97 args h v h':=by
 unfold Zd8 at e
 split at e
 ·obtain⟨a,b,c,d,rfl,rfl,rfl,rfl,f,e⟩:=Ov e
  obtain⟨g1,g2,g3,g4,g5,g6,g7,g8,g9,g10,g11⟩:=Z0 f
  obtain⟨q,e⟩:=Zv.1 e
  cases e
  obtain rfl:=of_decide_eq_true q
  have b1:a * c≤4 * 64:=Nat.mul_le_mul (by omega) (by omega)
  obtain⟨v,h',cc,rfl,hk⟩:∃ v h',Ze K Tryz.prog 97 [.g [.int .i64 (a:Int),.int .i64 (b:Int),.int .i64 (c:Int),.int .i64 (d:Int),.int .u32 0]] h v h'∧v=.w (.c (.bool true))∧∀ m,m<h.next→h'.get m=h.get m:=by
   refine Ze.Z8 fits Hh (by kernel_rfl) (by kernel_rfl) (by kernel_rfl) (show Tryz.f97.body=some _ from rfl) rfl ?_
   repeat (first|apply Goes.seq|apply Goes.block|apply Goes.loop|apply Goes.skip|apply Goes.exit|apply Goes.ret|((first|apply Goes.Zr|apply Goes.ops2 fits Hh (Zh Zc (fun _ _ _ _=>Bl Hh))); · simp (maxSteps:=9^6) +decide (disch:=first|omega|(simp only[lens]<;>omega)|decide) only [go_sem,Zf,Za,simprocAttr,f,read1,Zw]<;>rfl)|(apply Goes.drawn2 fits Hh (Zh Zc (fun _ _ _ _=>Bl Hh)) (by kernel_rfl); · simp (maxSteps:=9^6) +decide (disch:=first|omega|(simp only[lens]<;>omega)|decide) only [go_sem,Zf,Za,simprocAttr,Js,Y2,Jd,Jo,Yv,Jp,Jf,Ye,Ja,Jr,Ux,Jg,Ya,Ym,Yh,Yg,Je,Yt,Y0,Yd,Yu,Jb,Oy,U8,Oj,Ee,Ep,Ue,Ug,Jn,Om,Uj,Ur,Jq,Y1,Uo,looks,O5,Op.operands,Call.operands,kd,Ud,List.filterMap_cons,List.filterMap_nil,List.append_nil,List.nil_append,List.cons_append,Ji,stable,Jl,J4,Jt,waits,Yr,List.all_cons,List.all_nil,List.any_cons,List.any_nil,Region.binds,Bool.or_true,Bool.true_or,Bool.and_true,Bool.true_and,Bool.or_false,Bool.false_or,Bool.and_self,Bool.or_self,Jc,Nat.le_refl,Nat.le_add_right,List.map_cons,Array.toList_append,f,read1,Zw]<;>rfl))
   exact⟨_,_,(by simp (maxSteps:=9^6) +decide (disch:=first|omega|(simp only[lens]<;>omega)|decide) only [go_sem,Zf,Za,simprocAttr]<;>rfl),rfl,fun m hm=>by (first|(simp (discharger:=omega) only [H.get_put,H.Zi,H.Zm,H.Zd,H.Zg,H.Zj,if_neg]; done)|(simp only[H.get_put,H.Zi,H.Zm,H.Zd,H.Zg,H.Zj]; (repeat' split)<;>first|rfl|(exfalso; omega)|omega))⟩
  exact cc.quiet rfl hk
 ·cases e
theorem Zke {args:List W} {h h':Go.Ev.H} {v:V} (e:Zpu args h=some (v,h')):Ze K Tryz.prog 102 args h v h':=by
 unfold Zpu at e
 split at e
 ·rename_i n len
  obtain⟨a,b,c,d,rfl,rfl,rfl,rfl,f,e⟩:=Ov e
  split at e
  ·rename_i s L ro heq
   obtain⟨q,e⟩:=Zv.1 e
   cases e
   simp only[Bool.and_eq_true] at q
   obtain⟨⟨⟨q1,q2⟩,q3⟩,q4⟩:=q
   obtain rfl:=Nat.eq_of_beq_eq_true q1
   obtain rfl:=Nat.eq_of_beq_eq_true q2
   have q3:=Nat.eq_of_beq_eq_true q3
   have q4:=List.all_eq_true.1 q4
   have F:=Z0 f
   obtain⟨g1,g2,g3,g4,g5,g6,g7,g8,g9,g10,g11⟩:=F
   refine Ze.tidy ⟨Tryz.f102,Tryz.func102,by kernel_rfl,by decide⟩ fun tidy=>?_
   have l1:=tidy _ _ heq
   obtain⟨v,h',cc,rfl,hk⟩:∃ v h',Ze K Tryz.prog 102 [.g [.int .i64 (len:Int),.int .i64 (b:Int),.int .i64 (c:Int),.int .i64 (d:Int)],.c (.slice n 0 len 3)] h v h'∧v=.w (.c (.bool true))∧∀ m,m<h.next→h'.get m=h.get m:=by
    rcases L with _|⟨r0,_|⟨r1,_|⟨r2,_|⟨r3,_|⟨r4,L⟩⟩⟩⟩⟩
    ·simp only[List.length_nil] at q3; omega
    rotate_right
    ·simp only[List.length_cons] at q3; omega
    all_goals
     simp only[List.length_cons,List.length_nil] at q3
     subst q3
     obtain⟨x0,y0,z0,rfl,a1,a2,a3,a4,a5,a6⟩:=Lb (q4 r0 (by simp))
     try obtain⟨x1,y1,z1,rfl,b1,b2,b3,b4,b5,b6⟩:=Lb (q4 r1 (by simp))
     try obtain⟨x2,y2,z2,rfl,c1,c2,c3,c4,c5,c6⟩:=Lb (q4 r2 (by simp))
     try obtain⟨x3,y3,z3,rfl,d1,d2,d3,d4,d5,d6⟩:=Lb (q4 r3 (by simp))
     refine Ze.Z8 fits Hh (by kernel_rfl) (by kernel_rfl) (by kernel_rfl) (show Tryz.f102.body=some _ from rfl) rfl ?_
     repeat (first|apply Goes.seq|apply Goes.block|apply Goes.loop|apply Goes.skip|apply Goes.exit|apply Goes.ret|((first|apply Goes.Zr|apply Goes.ops2 fits Hh (Zh Zc (fun _ _ _ _=>Ld Hh))); · simp (maxSteps:=9^6) +decide (disch:=first|omega|(simp only[lens]<;>omega)|decide) only [go_sem,Zf,Za,simprocAttr,f,heq,read1,Zw,Zt,Y8]<;>rfl))
     exact⟨_,_,(by simp (maxSteps:=9^6) +decide (disch:=first|omega|(simp only[lens]<;>omega)|decide) only [go_sem,Zf,Za,simprocAttr]<;>rfl),rfl,fun m hm=>by (first|(simp (discharger:=omega) only [H.get_put,H.Zi,H.Zm,H.Zd,H.Zg,H.Zj,if_neg]; done)|(simp only[H.get_put,H.Zi,H.Zm,H.Zd,H.Zg,H.Zj]; (repeat' split)<;>first|rfl|(exfalso; omega)|omega))⟩
   exact cc.quiet rfl hk
  ·cases e
 ·cases e
end
end Go.Proofs.YtngejdlimkgjfaaGreatDoor
set_option maxRecDepth 100000
set_option maxHeartbeats 4000000
namespace Go.Proofs.YtngejdlimkgjfaaGreatDoor
open Go.Ev
def Ou:List Nat:=List.replicate 256 0
def O3 (ns:List Nat):List Nat:=Uh ns 252 (Xw ns)
abbrev Dq:=Nat × Nat × Nat
def Oh (d:Dq):List C:=[.int .i64 (d.1:Int),.int .i64 (d.2.1:Int),.int .i64 (d.2.2:Int)]
def Ea:List Dq→Nat→List Nat→List Nat
 | [],_,x=>x
 | d :: D,i,x=>Ea D (i+8) (Zmm x i d.1 d.2.1 d.2.2)
def getD (ns:List Nat) (i:Nat):Dq:=(U7 ns i,U7 ns (i+2),U7 ns (i+4))
def Bg (ns:List Nat):Nat→Nat→List Dq
 | 0,_=>[]
 | k+1,i=>getD ns i :: Bg ns k (i+8)
theorem zPg:List.replicate 256 (C.int .u8 0)=pgL Ou:=by kernel_rfl
theorem Rn:Ou.length=256:=by kernel_rfl
theorem Zeg:∀ D:List Dq,(D.map Oh).all (fun l=>l.all C.flat)=true
 | []=>rfl
 | _ :: D=>Zeg D
theorem Zjv:(∀ ns:List Nat,(pgL ns).length=ns.length)∧(∀ (ns:List Nat) (i v:Nat),(Oe ns i v).length=ns.length)∧(∀ (ns:List Nat) (i v:Nat),(Uh ns i v).length=ns.length)∧(∀ (ns:List Nat) (a b c d:Nat),(Ziu ns a b c d).length=ns.length)∧(∀ (ns:List Nat) (i a b c:Nat),(Zmm ns i a b c).length=ns.length):=⟨De,Yz,Yj,Zli,Zld⟩
theorem Zuc {ns:List Nat} (h:ns.length≤256∧256≤ns.length):Zf 256 [pgL ns] 0 256=some (pgL ns):=Fp (by rw[De]; omega)
theorem Z2r {ns:List Nat} {x:List C} (h:(ns.length≤256∧256≤ns.length)∧x.length≤256∧256≤x.length):Z5 256 [x] 0 (pgL ns)=some [pgL ns]:=Rw (by rw[De]; omega)
theorem rd4 (a b c d:C):Zf 4 [[a,b,c,d]] 0 4=some [a,b,c,d]:=rfl
theorem rd30 (x y z:C) (L:List (List C)):Zf 3 ([x,y,z] :: L) 0 3=some [x,y,z]:=rfl
theorem rd31 (r0:List C) (x y z:C) (L:List (List C)):Zf 3 (r0 :: [x,y,z] :: L) 3 3=some [x,y,z]:=rfl
theorem rd32 (r0 r1:List C) (x y z:C) (L:List (List C)):Zf 3 (r0 :: r1 :: [x,y,z] :: L) 6 3=some [x,y,z]:=rfl
theorem rd33 (r0 r1 r2:List C) (x y z:C) (L:List (List C)):Zf 3 (r0 :: r1 :: r2 :: [x,y,z] :: L) 9 3=some [x,y,z]:=rfl
theorem wr30 (x y z a b c:C) (L:List (List C)):Z5 3 ([x,y,z] :: L) 0 [a,b,c]=some ([a,b,c] :: L):=rfl
theorem wr31 (r0:List C) (x y z a b c:C) (L:List (List C)):Z5 3 (r0 :: [x,y,z] :: L) 3 [a,b,c]=some (r0 :: [a,b,c] :: L):=rfl
theorem wr32 (r0 r1:List C) (x y z a b c:C) (L:List (List C)):Z5 3 (r0 :: r1 :: [x,y,z] :: L) 6 [a,b,c]=some (r0 :: r1 :: [a,b,c] :: L):=rfl
theorem wr33 (r0 r1 r2:List C) (x y z a b c:C) (L:List (List C)):Z5 3 (r0 :: r1 :: r2 :: [x,y,z] :: L) 9 [a,b,c]=some (r0 :: r1 :: r2 :: [a,b,c] :: L):=rfl
def Zwl (a b c d:Nat):List Nat:=O3 (Uh (Ziu (Oe (Oe (Uh Ou 0 827216465) 4 1) 6 256) a b c d) 16 0)
noncomputable def Z2n:Kn1:=fun args h=>match args with
 | [.g [.int .i64 a,.int .i64 b,.int .i64 c,.int .i64 d,.int .u32 z]]=>Q5 a b c d fun a b c d=>Y9 (decide (z=0)&&Di (h.get 0)) (some (.tup [.g (pgL (Zwl a b c d)),.c (.int .i64 0)],h))
 | _=>none
attribute [go_sem] Z2n
theorem Zv6 (a b c d:Nat):(Zwl a b c d).length=256:=by
 have zl:=Rn
 simp only[Zwl,O3,Yj,Zli,Yz,zl]
section
variable (Hh:Hearts K Tryz.prog)
include Hh
theorem Zsh {args:List W} {h h':Go.Ev.H} {v:V} (e:Z2n args h=some (v,h')):Ze K Tryz.prog 54 args h v h':=by
 unfold Z2n at e
 split at e
 ·rename_i z
  obtain⟨a,b,c,d,rfl,rfl,rfl,rfl,f,e⟩:=Ov e
  obtain⟨q,e⟩:=Zv.1 e
  cases e
  rw[Bool.and_eq_true] at q
  obtain rfl:=of_decide_eq_true q.1
  have hst:=Br q.2
  unfold Zwl
  obtain⟨g1,g2,g3,g4,g5,g6,g7,g8,g9,g10,g11⟩:=Z0 f
  obtain⟨Z,hZ⟩:∃ Z,Ou=Z:=⟨_,rfl⟩
  have z0:=zPg
  have zl:=Rn
  rw[hZ] at z0 zl ⊢
  have r5:Zf 5 [[.int .i64 (a:Int),.int .i64 (b:Int),.int .i64 (c:Int),.int .i64 (d:Int),.int .u32 0]] 0 4=some [.int .i64 (a:Int),.int .i64 (b:Int),.int .i64 (c:Int),.int .i64 (d:Int)]:=rfl
  refine Ze.tidy ⟨Tryz.f54,Tryz.func54,by kernel_rfl,by decide⟩ fun tidy=>?_
  have l0:=tidy _ _ hst
  obtain⟨v,h',cc,ns,rfl,hl,hk⟩:∃ v h',Ze K Tryz.prog 54 [.g [.int .i64 (a:Int),.int .i64 (b:Int),.int .i64 (c:Int),.int .i64 (d:Int),.int .u32 0]] h v h'∧∃ ns,v=.tup [.g (pgL ns),.c (.int .i64 0)]∧ns=O3 (Uh (Ziu (Oe (Oe (Uh Z 0 827216465) 4 1) 6 256) a b c d) 16 0)∧∀ m,m<h.next→h'.get m=h.get m:=by
   refine Ze.Z8 fits Hh (by kernel_rfl) (by kernel_rfl) (by kernel_rfl) (show Tryz.f54.body=some _ from rfl) rfl ?_
   repeat (first|apply Goes.seq|apply Goes.block|apply Goes.loop|apply Goes.skip|apply Goes.exit|apply Goes.ret|((first|apply Goes.Zr|apply Goes.ops2 fits Hh (Zh (Zh (Zh (Zh (Zh (Zh Zc (fun _ _ _ _=>U9 Hh)) (fun _ _ _ _=>Zmt Hh)) (fun _ _ _ _=>Zj5 Hh)) (fun _ _ _ _=>Zg8 Hh)) (fun _ _ _ _=>Zqu Hh)) (fun _ _ _ _=>Zj2 Hh))); · simp (maxSteps:=9^6) +decide (disch:=first|omega|(simp only[lens,Zjv]<;>omega)|decide) only [go_sem,Za,simprocAttr,f,hst,z0,zl,r5,Zuc,Z2r,read1,Zw]<;>rfl))
   exact⟨_,_,(by simp (maxSteps:=9^6) +decide (disch:=first|omega|(simp only[lens,Zjv]<;>omega)|decide) only [go_sem,Za,simprocAttr,zl,Zuc]<;>rfl),_,rfl,(by simp only[O3]),fun m hm=>by (first|(simp (discharger:=omega) only [H.get_put,H.Zi,H.Zm,H.Zd,H.Zg,H.Zj,if_neg]; done)|(simp only[H.get_put,H.Zi,H.Zm,H.Zd,H.Zg,H.Zj]; (repeat' split)<;>first|rfl|(exfalso; omega)|omega))⟩
  rw[←hl]
  exact cc.quiet (by simp only[V.flat,W.flat,List.all_cons,Fs]; rfl) hk
 ·cases e
end
end Go.Proofs.YtngejdlimkgjfaaGreatDoor
