/- super: descriptors as a block. -/
import Derived.Test.YtmdibcklpmeleaaGreatDoorSup2
set_option linter.unusedSimpArgs false
set_option linter.unusedVariables false
set_option linter.unusedSectionVars false
set_option maxRecDepth 100000
set_option maxHeartbeats 10000000
namespace Go.Proofs.YtmdibcklpmeleaaGreatDoor
open Go.Ev
theorem rs52:Tryz.f52.results.toList=[.cell 4 78,.tmp 5]:=rfl
attribute [go_sem] rs52
section
variable (Hh:Hearts K Tryz.prog)
include Hh
theorem Z22 {a b c d n:Nat} {D:List Zba} {ro:Bool} (f:U7 a b c d=true) {h:Go.Ev.H} (hst:h.get 0=some Bz) (hn:h.get n=some (.row 3 (D.map Zh5) ro)) (hD:D.length=a) (ok:∀ d∈D,d.1≤b - 2 - c / 4∧d.2.1≤c∧d.2.2+d.2.1≤c) :
  Zd K Tryz.prog 52 [.g [.int .i64 (a:Int),.int .i64 (b:Int),.int .i64 (c:Int),.int .i64 (d:Int)],.c (.slice n 0 a 3)] h (.tup [.g (pgL (Zas (Zru D 0 Zfh))),.c (.int .i64 0)]) h:=by
 obtain⟨g1,g2,g3,g4,g5,g6,g7,g8,g9,g10,g11⟩:=Yn f
 obtain⟨Z,hZ⟩:∃ Z,Zfh=Z:=⟨_,rfl⟩
 have z0:=zPg
 have zl:=Zim
 rw[hZ] at z0 zl ⊢
 refine Zd.tidy ⟨Tryz.f52,Tryz.func52,by kernel_rfl,by decide⟩ fun tidy=>?_
 have l0:=tidy _ _ hst
 have l1:=tidy _ _ hn
 obtain⟨v,h',cc,rfl,hk⟩:∃ v h',Zd K Tryz.prog 52 [.g [.int .i64 (a:Int),.int .i64 (b:Int),.int .i64 (c:Int),.int .i64 (d:Int)],.c (.slice n 0 a 3)] h v h'∧v=.tup [.g (pgL (Zas (Zru D 0 Z))),.c (.int .i64 0)]∧∀ m,m<h.next→h'.get m=h.get m:=by
  rcases D with _|⟨⟨x0,y0,w0⟩,_|⟨⟨x1,y1,w1⟩,_|⟨⟨x2,y2,w2⟩,_|⟨⟨x3,y3,w3⟩,_|⟨r4,D⟩⟩⟩⟩⟩
  ·simp only[List.length_nil] at hD; omega
  rotate_right
  ·simp only[List.length_cons] at hD; omega
  all_goals
   simp only[List.length_cons,List.length_nil,Nat.reduceAdd] at hD
   subst hD
   simp only[List.map_cons,List.map_nil,Zh5] at hn
   have o0:=ok (x0,y0,w0) (by simp)
   try have o1:=ok (x1,y1,w1) (by simp)
   try have o2:=ok (x2,y2,w2) (by simp)
   try have o3:=ok (x3,y3,w3) (by simp)
   simp only at o0
   try simp only at o1
   try simp only at o2
   try simp only at o3
   refine Zd.Ya fits Hh (by kernel_rfl) (by kernel_rfl) (by kernel_rfl) (show Tryz.f52.body=some _ from rfl) rfl ?_
   repeat (first
    | refine Goes.seq ?_
    | refine Goes.block ?_
    | refine Goes.loop ?_
    | refine Goes.skip ?_
    | refine Goes.exit ?_
    | refine Goes.ret ?_
    | refine Goes.Z4 (by simp (maxSteps:=9^6) +decide (disch:=first|omega|(simp only[lens,Znx]<;>omega)|decide) only [go_sem,Za,simprocAttr,f,hst,hn,List.all_cons,List.all_nil,Bool.and_true,Bool.true_and,z0,zl,Z07,Ybo,rd4,rd30,rd31,rd32,rd33,Zn,Zm,Yz,read1]<;>rfl) ?_
    | refine Goes.ops2 fits Hh (Zf (Zf (Zf (Zf Zb (fun _ _ _ _=>O4 Hh)) (fun _ _ _ _=>Z3e Hh)) (fun _ _ _ _=>Zup Hh)) (fun _ _ _ _=>Zow Hh)) (by simp (maxSteps:=9^6) +decide (disch:=first|omega|(simp only[lens,Znx]<;>omega)|decide) only [go_sem,Za,simprocAttr,f,hst,hn,List.all_cons,List.all_nil,Bool.and_true,Bool.true_and,z0,zl,Z07,Ybo,rd4,rd30,rd31,rd32,rd33,Zn,Zm,Yz,read1]; rfl) ?_)
   exact⟨_,_,(by simp (maxSteps:=9^6) +decide (disch:=first|omega|(simp only[lens,Znx]<;>omega)|decide) only [go_sem,Za,simprocAttr,zl,Z07]<;>rfl),(by simp only[Zas,Zru,Nat.reduceAdd]),fun m hm=>by (first|(simp (discharger:=omega) only [H.get_put,H.Zh,H.Zk,H.Ze,H.Zg,H.Zj,if_neg]; done)|(simp only[H.get_put,H.Zh,H.Zk,H.Ze,H.Zg,H.Zj]; (repeat' split)<;>first|rfl|(exfalso; omega)|omega))⟩
 exact cc.quiet (by simp only[V.flat,W.flat,List.all_cons,Nz]; rfl) hk
end
end Go.Proofs.YtmdibcklpmeleaaGreatDoor
set_option maxRecDepth 100000
set_option maxHeartbeats 10000000
namespace Go.Proofs.YtmdibcklpmeleaaGreatDoor
open Go.Ev
theorem rs86:Tryz.f86.results.toList=[.tmp 4,.tmp 5]:=rfl
attribute [go_sem] rs86
section
variable (Hh:Hearts K Tryz.prog)
include Hh
end
end Go.Proofs.YtmdibcklpmeleaaGreatDoor
set_option maxRecDepth 100000
namespace Go.Proofs.YtmdibcklpmeleaaGreatDoor
open Go.Ev
def Z0z:List C→Option Zba
 | [.int .i64 x,.int .i64 y,.int .i64 z]=>(J4 x).bind fun x=>(J4 y).bind fun y=>(J4 z).bind fun z=>some (x,y,z)
 | _=>none
def Z56:List (List C)→Option (List Zba)
 | []=>some []
 | r :: L=>(Z0z r).bind fun d=>(Z56 L).bind fun D=>some (d :: D)
theorem Z4i (d:Zba):Z0z (Zh5 d)=some d:=by simp only[Z0z,Zh5,Zl6,Option.bind_some]
theorem Zof:∀ D:List Zba,Z56 (D.map Zh5)=some D
 | []=>rfl
 | d :: D=>by simp only[List.map_cons,Z56,Z4i,Option.bind_some,Zof D]
theorem Z2r {r:List C} {d:Zba} (e:Z0z r=some d):r=Zh5 d:=by
 unfold Z0z at e
 split at e
 ·obtain⟨x,hx,e⟩:=Zo e
  obtain⟨y,hy,e⟩:=Zo e
  obtain⟨z,hz,e⟩:=Zo e
  cases e
  rw[Z6 hx,Z6 hy,Z6 hz]
  rfl
 ·cases e
theorem Zoj:∀ {L:List (List C)} {D:List Zba},Z56 L=some D→L=D.map Zh5
 | [],D,e=>by cases e; rfl
 | r :: L,D,e=>by
  obtain⟨d,hd,e⟩:=Zo (show (Z0z r).bind _=some D from e)
  obtain⟨D',hD,e⟩:=Zo e
  cases e
  rw[List.map_cons,←Z2r hd,←Zoj hD]
def Zwm (dt ino:Nat) (d:Zba):Bool:=Nat.ble d.1 dt&&Nat.ble d.2.1 ino&&Nat.ble (d.2.2+d.2.1) ino
theorem Z00 {dt ino:Nat} {d:Zba} (e:Zwm dt ino d=true):d.1≤dt∧d.2.1≤ino∧d.2.2+d.2.1≤ino:=by
 simp only[Zwm,Bool.and_eq_true] at e
 exact⟨Nat.le_of_ble_eq_true e.1.1,Nat.le_of_ble_eq_true e.1.2,Nat.le_of_ble_eq_true e.2⟩
noncomputable def Yeg:Kn1:=fun args h=>match args with
 | [.g [.int .i64 a,.int .i64 b,.int .i64 c,.int .i64 d],.c (.slice n 0 len 3)]=>Zbc a b c d fun a b c _=>match h.get n with
  | some (.row s L _)=>(Z56 L).bind fun D=>Y2 (Nat.beq s 3&&Nat.beq len a&&Nat.beq D.length a&&D.all (Zwm (b - 2 - c / 4) c)&&Di (h.get 0)) (some (.tup [.g (pgL (Zas (Zru D 0 Zfh))),.c (.int .i64 0)],h))
  | _=>none
 | _=>none
def Ztx (ns:List Nat):Nat→Nat→Bool
 | 0,_=>true
 | k+1,i=>Sw ns (i+6) 2&&Ztx ns k (i+8)
def goodD (ns:List Nat) (a b c:Nat):Bool:=Nat.beq (Yj ns 252) (Zik ns)&&Sw ns (8 * a) (252 - 8 * a)&&Ztx ns a 0&&(Zod ns a 0).all (Zwm (b - 2 - c / 4) c)
theorem Zj7 (ns:List Nat):∀ a i,Zod (ns.map (· % 256)) a i=Zod ns a i
 | 0,_=>rfl
 | a+1,i=>by simp only[Zod,getD,Zmi,Zj7 ns a]
theorem Zn3 (ns:List Nat):∀ a i,Ztx (ns.map (· % 256)) a i=Ztx ns a i
 | 0,_=>rfl
 | a+1,i=>by simp only[Ztx,Ziv,Zn3 ns a]
theorem Z15 (ns:List Nat) (a b c:Nat):goodD (ns.map (· % 256)) a b c=goodD ns a b c:=by simp only[goodD,Zl0,Zfe,Ziv,Zn3,Zj7]
noncomputable def Yib:Kn1:=fun args h=>match args with
 | [.g [.int .i64 a,.int .i64 b,.int .i64 c,.int .i64 d],.g x]=>Zbc a b c d fun a b c _=>Y2 (Z2k x&&Nat.beq x.length 256&&goodD (unN x) a b c&&Di (h.get 0)) (some (.tup [.c (.slice h.next 0 a 3),.c (.int .i64 0)],h.new (.row 3 ((Zod (unN x) a 0).map Zh5) false)))
 | _=>none
attribute [go_sem] Yeg Yib Zof Zj7 Z15
section
variable (Hh:Hearts K Tryz.prog)
include Hh
theorem Z9p {args:List W} {h h':Go.Ev.H} {v:V} (e:Yeg args h=some (v,h')):Zd K Tryz.prog 52 args h v h':=by
 unfold Yeg at e
 split at e
 ·obtain⟨a,b,c,d,rfl,rfl,rfl,rfl,f,e⟩:=Gq e
  split at e
  ·rename_i s L ro heq
   obtain⟨D,hD,e⟩:=Zo e
   obtain⟨q,e⟩:=Zu.1 e
   cases e
   simp only[Bool.and_eq_true] at q
   obtain⟨⟨⟨⟨q1,q2⟩,q3⟩,q4⟩,q5⟩:=q
   obtain rfl:=Nat.eq_of_beq_eq_true q1
   obtain rfl:=Nat.eq_of_beq_eq_true q2
   rw[Zoj hD] at heq
   exact Z22 Hh f (Fa q5) heq (Nat.eq_of_beq_eq_true q3) fun d hd=>Z00 (List.all_eq_true.1 q4 d hd)
  ·cases e
 ·cases e
end
end Go.Proofs.YtmdibcklpmeleaaGreatDoor
