/- super: descriptors from a block. -/
import Derived.Test.YtngejdlimkgjfaaGreatDoorSup2
import Derived.Test.YtngejdlimkgjfaaGreatDoorSup3
set_option linter.unusedSimpArgs false
set_option linter.unusedVariables false
set_option linter.unusedSectionVars false
set_option maxRecDepth 100000
set_option maxHeartbeats 10000000
namespace Go.Proofs.YtngejdlimkgjfaaGreatDoor
open Go.Ev
theorem rs84:Tryz.f84.results.toList=[.tmp 4,.tmp 5]:=rfl
attribute [go_sem] rs84
section
variable (Hh:Hearts K Tryz.prog)
include Hh
theorem Zt1 {a b c d:Nat} {ns:List Nat} (f:Jm a b c d=true) {h:Go.Ev.H} (hst:h.get 0=some O1) (hl:ns.length=256) (s1:Yn ns 252=Xw ns) (s2:Dc ns (8 * a) (252 - 8 * a)=true) (s3:∀ k,k<a→Dc ns (8 * k+6) 2=true) (ok:∀ d∈Bg ns a 0,d.1≤b - 2 - c / 4∧d.2.1≤c∧d.2.2+d.2.1≤c) :
  Ze K Tryz.prog 84 [.g [.int .i64 (a:Int),.int .i64 (b:Int),.int .i64 (c:Int),.int .i64 (d:Int)],.g (pgL ns)] h (.tup [.c (.slice h.next 0 a 3),.c (.int .i64 0)]) (h.new (.row 3 ((Bg ns a 0).map Oh) false)):=by
 obtain⟨g1,g2,g3,g4,g5,g6,g7,g8,g9,g10,g11⟩:=Z0 f
 refine Ze.tidy ⟨Tryz.f84,Tryz.func84,by kernel_rfl,by decide⟩ fun tidy=>?_
 have l0:=tidy _ _ hst
 have t0:Dc ns 6 2=true:=s3 0 (by omega)
 have t1:1<a→Dc ns 14 2=true:=s3 1
 have t2:2<a→Dc ns 22 2=true:=s3 2
 have t3:3<a→Dc ns 30 2=true:=s3 3
 obtain⟨v,h',cc,n,rfl,n1,n2,n3,hk⟩:∃ v h',Ze K Tryz.prog 84 [.g [.int .i64 (a:Int),.int .i64 (b:Int),.int .i64 (c:Int),.int .i64 (d:Int)],.g (pgL ns)] h v h'∧∃ n,v=.tup [.c (.slice n 0 a 3),.c (.int .i64 0)]∧h.next≤n∧n<h'.next∧h'.get n=some (.row 3 ((Bg ns a 0).map Oh) false)∧∀ m,m<h.next→h'.get m=h.get m:=by
  obtain rfl|rfl|rfl|rfl:a=1∨a=2∨a=3∨a=4:=by omega
  all_goals
   simp only[Bg,getD,List.forall_mem_cons,Nat.reduceAdd,Nat.reduceMul,Nat.reduceSub] at ok s2
   obtain⟨o0,ok⟩:=ok
   try obtain⟨o1,ok⟩:=ok
   try obtain⟨o2,ok⟩:=ok
   try obtain⟨o3,ok⟩:=ok
   refine Ze.Z8 fits Hh (by kernel_rfl) (by kernel_rfl) (by kernel_rfl) (show Tryz.f84.body=some _ from rfl) rfl ?_
   repeat (first|apply Goes.seq|apply Goes.block|apply Goes.loop|apply Goes.skip|apply Goes.exit|apply Goes.ret|((first|apply Goes.Zr|apply Goes.ops2 fits Hh (Zh (Zh (Zh (Zh (Zh Zc (fun _ _ _ _=>U9 Hh)) (fun _ _ _ _=>Zn9 Hh)) (fun _ _ _ _=>Zk6 Hh)) (fun _ _ _ _=>Zn4 Hh)) (fun _ _ _ _=>Zke Hh))); · simp (maxSteps:=9^6) +decide (disch:=first|omega|(simp only[lens,Zjv]<;>omega)|decide) only [go_sem,Za,simprocAttr,f,hst,hl,List.all_cons,List.all_nil,Bool.and_true,Bool.true_and,s1,s2,t0,t1,t2,t3,Zuc,Z2r,rd4,rd30,rd31,rd32,rd33,wr30,wr31,wr32,wr33,List.replicate_succ,List.replicate_zero,Zw,Zt,Y8,Ua,Y7,read1]<;>rfl))
   exact⟨_,_,(by simp (maxSteps:=9^6) +decide (disch:=first|omega|(simp only[lens,Zjv]<;>omega)|decide) only [go_sem,Za,simprocAttr,hl,Zuc]<;>rfl),_,rfl,(by first|omega|(simp only[H.Zd,H.Zg]<;>omega)),(by first|omega|(simp only[H.Zd,H.Zg]<;>omega)),by simp (maxSteps:=9^6) +decide (disch:=first|omega|(simp only[lens]<;>omega)|decide) only [go_sem,Za,simprocAttr,Bg,getD,Oh,List.map_cons,List.map_nil]<;>rfl,fun m hm=>by (first|(simp (discharger:=omega) only [H.get_put,H.Zi,H.Zm,H.Zd,H.Zg,H.Zj,if_neg]; done)|(simp only[H.get_put,H.Zi,H.Zm,H.Zd,H.Zg,H.Zj]; (repeat' split)<;>first|rfl|(exfalso; omega)|omega))⟩
 exact Ze.row cc n1 n3 rfl (Zeg _) n2 hk
end
end Go.Proofs.YtngejdlimkgjfaaGreatDoor
set_option maxRecDepth 100000
namespace Go.Proofs.YtngejdlimkgjfaaGreatDoor
open Go.Ev
def Ztm:List C→Option Dq
 | [.int .i64 x,.int .i64 y,.int .i64 z]=>(Ul x).bind fun x=>(Ul y).bind fun y=>(Ul z).bind fun z=>some (x,y,z)
 | _=>none
def Zym:List (List C)→Option (List Dq)
 | []=>some []
 | r :: L=>(Ztm r).bind fun d=>(Zym L).bind fun D=>some (d :: D)
theorem Zws (d:Dq):Ztm (Oh d)=some d:=by simp only[Ztm,Oh,Zgk,Option.bind_some]
theorem Zji:∀ D:List Dq,Zym (D.map Oh)=some D
 | []=>rfl
 | d :: D=>by simp only[List.map_cons,Zym,Zws,Option.bind_some,Zji D]
theorem Zv4 {r:List C} {d:Dq} (e:Ztm r=some d):r=Oh d:=by
 unfold Ztm at e
 split at e
 ·obtain⟨x,hx,e⟩:=Zo e
  obtain⟨y,hy,e⟩:=Zo e
  obtain⟨z,hz,e⟩:=Zo e
  cases e
  rw[Z6 hx,Z6 hy,Z6 hz]
  rfl
 ·cases e
theorem Zjx:∀ {L:List (List C)} {D:List Dq},Zym L=some D→L=D.map Oh
 | [],D,e=>by cases e; rfl
 | r :: L,D,e=>by
  obtain⟨d,hd,e⟩:=Zo (show (Ztm r).bind _=some D from e)
  obtain⟨D',hD,e⟩:=Zo e
  cases e
  rw[List.map_cons,←Zv4 hd,←Zjx hD]
def Tv (dt ino:Nat) (d:Dq):Bool:=Nat.ble d.1 dt&&Nat.ble d.2.1 ino&&Nat.ble (d.2.2+d.2.1) ino
theorem Ni {dt ino:Nat} {d:Dq} (e:Tv dt ino d=true):d.1≤dt∧d.2.1≤ino∧d.2.2+d.2.1≤ino:=by
 simp only[Tv,Bool.and_eq_true] at e
 exact⟨Nat.le_of_ble_eq_true e.1.1,Nat.le_of_ble_eq_true e.1.2,Nat.le_of_ble_eq_true e.2⟩
noncomputable def Z3w:Kn1:=fun args h=>match args with
 | [.g [.int .i64 a,.int .i64 b,.int .i64 c,.int .i64 d],.c (.slice n 0 len 3)]=>Q5 a b c d fun a b c _=>match h.get n with
  | some (.row s L _)=>(Zym L).bind fun D=>Y9 (Nat.beq s 3&&Nat.beq len a&&Nat.beq D.length a&&D.all (Tv (b - 2 - c / 4) c)&&Di (h.get 0)) (some (.tup [.g (pgL (O3 (Ea D 0 Ou))),.c (.int .i64 0)],h))
  | _=>none
 | _=>none
def Ml (ns:List Nat):Nat→Nat→Bool
 | 0,_=>true
 | k+1,i=>Dc ns (i+6) 2&&Ml ns k (i+8)
theorem Zn0 {ns:List Nat}:∀ {a i:Nat},Ml ns a i=true→∀ k,k<a→Dc ns (8 * k+i+6) 2=true
 | 0,_,_,k,hk=>by omega
 | a+1,i,e,k,hk=>by
  have e':(Dc ns (i+6) 2&&Ml ns a (i+8))=true:=e
  rw[Bool.and_eq_true] at e'
  cases k with
  | zero=>rw[Nat.mul_zero,Nat.zero_add]; exact e'.1
  | succ k=>have:=Zn0 e'.2 k (by omega); rwa [show 8 * (k+1)+i+6=8 * k+(i+8)+6 by omega]
def goodD (ns:List Nat) (a b c:Nat):Bool:=Nat.beq (Yn ns 252) (Xw ns)&&Dc ns (8 * a) (252 - 8 * a)&&Ml ns a 0&&(Bg ns a 0).all (Tv (b - 2 - c / 4) c)
theorem Ty (ns:List Nat):∀ a i,Bg (ns.map (· % 256)) a i=Bg ns a i
 | 0,_=>rfl
 | a+1,i=>by simp only[Bg,getD,Wo,Ty ns a]
theorem Zjh (ns:List Nat):∀ a i,Ml (ns.map (· % 256)) a i=Ml ns a i
 | 0,_=>rfl
 | a+1,i=>by simp only[Ml,Zbu,Zjh ns a]
theorem Qr (ns:List Nat) (a b c:Nat):goodD (ns.map (· % 256)) a b c=goodD ns a b c:=by simp only[goodD,Wn,Qx,Zbu,Zjh,Ty]
noncomputable def Z28:Kn1:=fun args h=>match args with
 | [.g [.int .i64 a,.int .i64 b,.int .i64 c,.int .i64 d],.g x]=>Q5 a b c d fun a b c _=>Y9 (Zij x&&Nat.beq x.length 256&&goodD (unN x) a b c&&Di (h.get 0)) (some (.tup [.c (.slice h.next 0 a 3),.c (.int .i64 0)],h.new (.row 3 ((Bg (unN x) a 0).map Oh) false)))
 | _=>none
attribute [go_sem] Z3w Z28 Zji Ty Qr
section
variable (Hh:Hearts K Tryz.prog)
include Hh
theorem Zky {args:List W} {h h':Go.Ev.H} {v:V} (e:Z3w args h=some (v,h')):Ze K Tryz.prog 55 args h v h':=by
 unfold Z3w at e
 split at e
 ·obtain⟨a,b,c,d,rfl,rfl,rfl,rfl,f,e⟩:=Ov e
  split at e
  ·rename_i s L ro heq
   obtain⟨D,hD,e⟩:=Zo e
   obtain⟨q,e⟩:=Zv.1 e
   cases e
   simp only[Bool.and_eq_true] at q
   obtain⟨⟨⟨⟨q1,q2⟩,q3⟩,q4⟩,q5⟩:=q
   obtain rfl:=Nat.eq_of_beq_eq_true q1
   obtain rfl:=Nat.eq_of_beq_eq_true q2
   rw[Zjx hD] at heq
   exact Zt2 Hh f (Br q5) heq (Nat.eq_of_beq_eq_true q3) fun d hd=>Ni (List.all_eq_true.1 q4 d hd)
  ·cases e
 ·cases e
theorem Z1e {args:List W} {h h':Go.Ev.H} {v:V} (e:Z28 args h=some (v,h')):Ze K Tryz.prog 84 args h v h':=by
 unfold Z28 at e
 split at e
 ·obtain⟨a,b,c,d,rfl,rfl,rfl,rfl,f,e⟩:=Ov e
  obtain⟨q,e⟩:=Zv.1 e
  cases e
  simp only[Bool.and_eq_true] at q
  obtain⟨⟨⟨q1,q2⟩,q3⟩,q5⟩:=q
  obtain⟨ns,rfl,hl⟩:=Zfy q1
  have q2:=Nat.eq_of_beq_eq_true q2
  rw[q2] at hl
  rw[Bf,Qr] at q3
  rw[Bf,Ty]
  simp only[goodD,Bool.and_eq_true] at q3
  obtain⟨⟨⟨r1,r2⟩,r3⟩,r4⟩:=q3
  exact Zt1 Hh f (Br q5) hl (Nat.eq_of_beq_eq_true r1) r2 (fun k hk=>by have:=Zn0 r3 k hk; rwa [Nat.add_zero] at this) fun d hd=>Ni (List.all_eq_true.1 r4 d hd)
 ·cases e
end
end Go.Proofs.YtngejdlimkgjfaaGreatDoor
