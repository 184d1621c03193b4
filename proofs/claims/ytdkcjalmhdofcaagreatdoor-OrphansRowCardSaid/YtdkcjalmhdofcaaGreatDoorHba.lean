/- geo of a geometry that may be, as the walks ask it: data, groups' starts, inodes. -/
import Derived.Test.YtdkcjalmhdofcaaGreatDoorNew2
import Derived.Test.YtdkcjalmhdofcaaGreatDoorSto
import Derived.Test.YtdkcjalmhdofcaaGreatDoorBeg3
import Derived.Test.YtdkcjalmhdofcaaGreatDoorSto4
set_option linter.unusedSimpArgs false
set_option linter.unusedVariables false
set_option linter.unusedSectionVars false
set_option maxRecDepth 100000
set_option maxHeartbeats 4000000
namespace Go.Proofs.YtdkcjalmhdofcaaGreatDoor
open Go.Ev
noncomputable def Wq (a b c d:Int) (k:Nat→Nat→Nat→Nat→Option (V × Go.Ev.H)):Option (V × Go.Ev.H):=(Jy a).bind fun a=>(Jy b).bind fun b=>(Jy c).bind fun c=>(Jy d).bind fun d=>Yt (U4 a b c d) (k a b c d)
theorem Gf {a b c d:Int} {k:Nat→Nat→Nat→Nat→Option (V × Go.Ev.H)} {r:V × Go.Ev.H} (e:Wq a b c d k=some r):∃ a' b' c' d':Nat,a=a'∧b=b'∧c=c'∧d=d'∧U4 a' b' c' d'=true∧k a' b' c' d'=some r:=by
 obtain⟨a',ha,e⟩:=Zq e
 obtain⟨b',hb,e⟩:=Zq e
 obtain⟨c',hc,e⟩:=Zq e
 obtain⟨d',hd,e⟩:=Zq e
 obtain⟨f,e⟩:=Zv.1 e
 exact⟨a',b',c',d',Z8 ha,Z8 hb,Z8 hc,Z8 hd,f,e⟩
noncomputable def Zm8:Kn1:=fun args h=>match args with
 | [.g [.int .i64 a,.int .i64 b,.int .i64 c,.int .i64 d]]=>Wq a b c d fun _ b c _=>some (.w (.c (.int .i64 ((b - 2 - c / 4:Nat):Int))),h)
 | _=>none
noncomputable def Zi9:Kn1:=fun args h=>match args with
 | [.g [.int .i64 a,.int .i64 b,.int .i64 c,.int .i64 d],.c (.int .i64 k)]=>Wq a b c d fun a b _ d=>(Jy k).bind fun k=>Yt (decide (k<a)) (some (.tup [.c (.int .i64 ((2+d+k * b:Nat):Int)),.c (.bool true)],h))
 | _=>none
noncomputable def Zfq:Kn1:=fun args h=>match args with
 | [.g [.int .i64 a,.int .i64 b,.int .i64 c,.int .i64 d]]=>Wq a b c d fun a _ c _=>some (.w (.c (.int .i64 ((a * c:Nat):Int))),h)
 | _=>none
noncomputable def Zds:Kn1:=fun args h=>match args with
 | [.g [.int .i64 a,.int .i64 b,.int .i64 c,.int .i64 d],.c (.int .i64 k),.c (.int .i64 i)]=>Wq a b c d fun a _ c _=>(Jy k).bind fun k=>(Jy i).bind fun i=>Yt (decide (k<a)&&decide (i<c)) (some (.w (.c (.int .i64 ((k * c+i+1:Nat):Int))),h))
 | _=>none
noncomputable def Zoc:Kn1:=fun args h=>match args with
 | [.g [.int .i64 a,.int .i64 b,.int .i64 c,.int .i64 d],.c (.int .i64 z)]=>Wq a b c d fun a _ c _=>bif decide (1≤z)&&decide (z≤((a * c:Nat):Int)) then some (.tup [.c (.int .i64 (((z.toNat - 1) / c:Nat):Int)),.c (.int .i64 (((z.toNat - 1) % c:Nat):Int)),.c (.bool true)],h) else some (.tup [.c (.int .i64 0),.c (.int .i64 0),.c (.bool false)],h)
 | _=>none
noncomputable def Zim:Kn1:=fun args h=>match args with
 | [.g [.int .i64 a,.int .i64 b,.int .i64 c,.int .i64 d],.c (.int .i64 z)]=>Wq a b c d fun a b c d=>bif decide (1≤z)&&decide (z≤((a * c:Nat):Int)) then some (.tup [.c (.int .i64 ((2+d+(z.toNat - 1) / c * b+2+(z.toNat - 1) % c / 4:Nat):Int)),.c (.int .i64 (((z.toNat - 1) % c % 4 * 64:Nat):Int)),.c (.bool true)],h) else some (.tup [.c (.int .i64 0),.c (.int .i64 0),.c (.bool false)],h)
 | _=>none
attribute [go_sem] Wq Zm8 Zi9 Zfq Zds Zoc Zim
section
variable (Hh:Hearts K Tryz.prog)
include Hh
theorem Zsc {args:List W} {h h':Go.Ev.H} {v:V} (e:Zm8 args h=some (v,h')):Zg K Tryz.prog 167 args h v h':=by
 unfold Zm8 at e
 split at e
 ·obtain⟨a,b,c,d,rfl,rfl,rfl,rfl,f,e⟩:=Gf e
  obtain⟨g1,g2,g3,g4,g5,g6,g7,g8,g9,g10,g11⟩:=Yc f
  cases e
  have q1:Fe .i64 (c:Int) 4=some (.int .i64 ((c / 4:Nat):Int)):=Ej (b:=4) (by omega) (by omega)
  have e2:(b:Int) - 2=((b - 2:Nat):Int):=by omega
  have e3:((b - 2:Nat):Int) - ((c / 4:Nat):Int)=((b - 2 - c / 4:Nat):Int):=by omega
  obtain⟨v,h',cc,rfl,hk⟩:∃ v h',Zg K Tryz.prog 167 [.g [.int .i64 (a:Int),.int .i64 (b:Int),.int .i64 (c:Int),.int .i64 (d:Int)]] h v h'∧v=.w (.c (.int .i64 ((b - 2 - c / 4:Nat):Int)))∧∀ m,m<h.next→h'.get m=h.get m:=by
   refine Zg.Yb fits Hh (by kernel_rfl) (by kernel_rfl) (by kernel_rfl) (show Tryz.f167.body=some _ from rfl) rfl ?_
   repeat (first|apply Goes.seq|apply Goes.block|apply Goes.loop|apply Goes.skip|apply Goes.exit|apply Goes.ret|((first|apply Goes.Zo|apply Goes.ops2 fits Hh (Zj Zb (fun _ _ _ _=>U7 Hh))); · simp (maxSteps:=9^6) +decide (disch:=first|omega|(simp only[lens]<;>omega)|decide) only [go_sem,Zd,Za,simprocAttr,f,q1,e2,e3,read1,Z6]<;>rfl))
   exact⟨_,_,(by simp (maxSteps:=9^6) +decide (disch:=first|omega|(simp only[lens]<;>omega)|decide) only [go_sem,Zd,Za,simprocAttr]<;>rfl),rfl,fun m hm=>by (first|(simp (discharger:=omega) only [H.get_put,H.Zf,H.Zk,H.Zc,H.Zh,H.Zi,if_neg]; done)|(simp only[H.get_put,H.Zf,H.Zk,H.Zc,H.Zh,H.Zi]; (repeat' split)<;>first|rfl|(exfalso; omega)|omega))⟩
  exact cc.quiet rfl hk
 ·cases e
theorem Ws {args:List W} {h h':Go.Ev.H} {v:V} (e:Zi9 args h=some (v,h')):Zg K Tryz.prog 85 args h v h':=by
 unfold Zi9 at e
 split at e
 ·obtain⟨a,b,c,d,rfl,rfl,rfl,rfl,f,e⟩:=Gf e
  obtain⟨g1,g2,g3,g4,g5,g6,g7,g8,g9,g10,g11⟩:=Yc f
  obtain⟨k,hk,e⟩:=Zq e
  obtain⟨bk,e⟩:=Zv.1 e
  have kl:=of_decide_eq_true bk
  cases e
  rw[Z8 hk]
  have b1:k * b≤a * b:=Nat.mul_le_mul (by omega) (by omega)
  have gi:(k:Int) * (b:Int)=((k * b:Nat):Int):=rfl
  obtain⟨v,h',cc,rfl,hk⟩:∃ v h',Zg K Tryz.prog 85 [.g [.int .i64 (a:Int),.int .i64 (b:Int),.int .i64 (c:Int),.int .i64 (d:Int)],.c (.int .i64 (k:Int))] h v h'∧v=.tup [.c (.int .i64 ((2+d+k * b:Nat):Int)),.c (.bool true)]∧∀ m,m<h.next→h'.get m=h.get m:=by
   refine Zg.Yb fits Hh (by kernel_rfl) (by kernel_rfl) (by kernel_rfl) (show Tryz.f85.body=some _ from rfl) rfl ?_
   repeat (first|apply Goes.seq|apply Goes.block|apply Goes.loop|apply Goes.skip|apply Goes.exit|apply Goes.ret|((first|apply Goes.Zo|apply Goes.ops2 fits Hh (Zj Zb (fun _ _ _ _=>U7 Hh))); · simp (maxSteps:=9^6) +decide (disch:=first|omega|(simp only[lens]<;>omega)|decide) only [go_sem,Zd,Za,simprocAttr,f,gi,read1,Z6]<;>rfl))
   exact⟨_,_,(by simp (maxSteps:=9^6) +decide (disch:=first|omega|(simp only[lens]<;>omega)|decide) only [go_sem,Zd,Za,simprocAttr]<;>rfl),rfl,fun m hm=>by (first|(simp (discharger:=omega) only [H.get_put,H.Zf,H.Zk,H.Zc,H.Zh,H.Zi,if_neg]; done)|(simp only[H.get_put,H.Zf,H.Zk,H.Zc,H.Zh,H.Zi]; (repeat' split)<;>first|rfl|(exfalso; omega)|omega))⟩
  exact cc.quiet rfl hk
 ·cases e
theorem Br {args:List W} {h h':Go.Ev.H} {v:V} (e:Zfq args h=some (v,h')):Zg K Tryz.prog 124 args h v h':=by
 unfold Zfq at e
 split at e
 ·obtain⟨a,b,c,d,rfl,rfl,rfl,rfl,f,e⟩:=Gf e
  obtain⟨g1,g2,g3,g4,g5,g6,g7,g8,g9,g10,g11⟩:=Yc f
  cases e
  have b1:a * c≤4 * 64:=Nat.mul_le_mul (by omega) (by omega)
  have gi:(a:Int) * (c:Int)=((a * c:Nat):Int):=rfl
  obtain⟨v,h',cc,rfl,hk⟩:∃ v h',Zg K Tryz.prog 124 [.g [.int .i64 (a:Int),.int .i64 (b:Int),.int .i64 (c:Int),.int .i64 (d:Int)]] h v h'∧v=.w (.c (.int .i64 ((a * c:Nat):Int)))∧∀ m,m<h.next→h'.get m=h.get m:=by
   refine Zg.Yb fits Hh (by kernel_rfl) (by kernel_rfl) (by kernel_rfl) (show Tryz.f124.body=some _ from rfl) rfl ?_
   repeat (first|apply Goes.seq|apply Goes.block|apply Goes.loop|apply Goes.skip|apply Goes.exit|apply Goes.ret|((first|apply Goes.Zo|apply Goes.ops2 fits Hh (Zj Zb (fun _ _ _ _=>U7 Hh))); · simp (maxSteps:=9^6) +decide (disch:=first|omega|(simp only[lens]<;>omega)|decide) only [go_sem,Zd,Za,simprocAttr,f,gi,read1,Z6]<;>rfl))
   exact⟨_,_,(by simp (maxSteps:=9^6) +decide (disch:=first|omega|(simp only[lens]<;>omega)|decide) only [go_sem,Zd,Za,simprocAttr]<;>rfl),rfl,fun m hm=>by (first|(simp (discharger:=omega) only [H.get_put,H.Zf,H.Zk,H.Zc,H.Zh,H.Zi,if_neg]; done)|(simp only[H.get_put,H.Zf,H.Zk,H.Zc,H.Zh,H.Zi]; (repeat' split)<;>first|rfl|(exfalso; omega)|omega))⟩
  exact cc.quiet rfl hk
 ·cases e
theorem Zli {args:List W} {h h':Go.Ev.H} {v:V} (e:Zds args h=some (v,h')):Zg K Tryz.prog 34 args h v h':=by
 unfold Zds at e
 split at e
 ·obtain⟨a,b,c,d,rfl,rfl,rfl,rfl,f,e⟩:=Gf e
  obtain⟨g1,g2,g3,g4,g5,g6,g7,g8,g9,g10,g11⟩:=Yc f
  obtain⟨k,hk,e⟩:=Zq e
  obtain⟨i,hi,e⟩:=Zq e
  obtain⟨bk,e⟩:=Zv.1 e
  simp only[Bool.and_eq_true,decide_eq_true_eq] at bk
  obtain⟨kl,il⟩:=bk
  cases e
  rw[Z8 hk,Z8 hi]
  have b1:k * c≤4 * 64:=Nat.mul_le_mul (by omega) (by omega)
  have gi:(k:Int) * (c:Int)=((k * c:Nat):Int):=rfl
  obtain⟨v,h',cc,rfl,hk⟩:∃ v h',Zg K Tryz.prog 34 [.g [.int .i64 (a:Int),.int .i64 (b:Int),.int .i64 (c:Int),.int .i64 (d:Int)],.c (.int .i64 (k:Int)),.c (.int .i64 (i:Int))] h v h'∧v=.w (.c (.int .i64 ((k * c+i+1:Nat):Int)))∧∀ m,m<h.next→h'.get m=h.get m:=by
   refine Zg.Yb fits Hh (by kernel_rfl) (by kernel_rfl) (by kernel_rfl) (show Tryz.f34.body=some _ from rfl) rfl ?_
   repeat (first|apply Goes.seq|apply Goes.block|apply Goes.loop|apply Goes.skip|apply Goes.exit|apply Goes.ret|((first|apply Goes.Zo|apply Goes.ops2 fits Hh (Zj Zb (fun _ _ _ _=>U7 Hh))); · simp (maxSteps:=9^6) +decide (disch:=first|omega|(simp only[lens]<;>omega)|decide) only [go_sem,Zd,Za,simprocAttr,f,gi,read1,Z6]<;>rfl))
   exact⟨_,_,(by simp (maxSteps:=9^6) +decide (disch:=first|omega|(simp only[lens]<;>omega)|decide) only [go_sem,Zd,Za,simprocAttr]<;>rfl),rfl,fun m hm=>by (first|(simp (discharger:=omega) only [H.get_put,H.Zf,H.Zk,H.Zc,H.Zh,H.Zi,if_neg]; done)|(simp only[H.get_put,H.Zf,H.Zk,H.Zc,H.Zh,H.Zi]; (repeat' split)<;>first|rfl|(exfalso; omega)|omega))⟩
  exact cc.quiet rfl hk
 ·cases e
theorem M9 {args:List W} {h h':Go.Ev.H} {v:V} (e:Zoc args h=some (v,h')):Zg K Tryz.prog 82 args h v h':=by
 unfold Zoc at e
 split at e
 ·rename_i z
  obtain⟨a,b,c,d,rfl,rfl,rfl,rfl,f,e⟩:=Gf e
  obtain⟨g1,g2,g3,g4,g5,g6,g7,g8,g9,g10,g11⟩:=Yc f
  have b1:a * c≤4 * 64:=Nat.mul_le_mul (by omega) (by omega)
  by_cases z1:1≤z
  ·by_cases z2:z≤((a * c:Nat):Int)
   ·rw[decide_eq_true z1,decide_eq_true z2] at e
    cases e
    obtain⟨j,hj⟩:∃ j,z.toNat - 1=j:=⟨_,rfl⟩
    obtain rfl:z=((j+1:Nat):Int):=by omega
    rw[hj]
    have e1:((j+1:Nat):Int) - 1=(j:Int):=by omega
    obtain⟨v,h',cc,rfl,hk⟩:∃ v h',Zg K Tryz.prog 82 [.g [.int .i64 (a:Int),.int .i64 (b:Int),.int .i64 (c:Int),.int .i64 (d:Int)],.c (.int .i64 ((j+1:Nat):Int))] h v h'∧v=.tup [.c (.int .i64 ((j / c:Nat):Int)),.c (.int .i64 ((j % c:Nat):Int)),.c (.bool true)]∧∀ m,m<h.next→h'.get m=h.get m:=by
     refine Zg.Yb fits Hh (by kernel_rfl) (by kernel_rfl) (by kernel_rfl) (show Tryz.f82.body=some _ from rfl) rfl ?_
     repeat (first|apply Goes.seq|apply Goes.block|apply Goes.loop|apply Goes.skip|apply Goes.exit|apply Goes.ret|((first|apply Goes.Zo|apply Goes.ops2 fits Hh (Zj Zb (fun _ _ _ _=>Br Hh))); · simp (maxSteps:=9^6) +decide (disch:=first|omega|(simp only[lens]<;>omega)|decide) only [go_sem,Zd,Za,simprocAttr,f,e1,Ej,Bd,read1,Z6]<;>rfl)|(apply Goes.drawn2 fits Hh (Zj Zb (fun _ _ _ _=>Br Hh)) (by kernel_rfl); · simp (maxSteps:=9^6) +decide (disch:=first|omega|(simp only[lens]<;>omega)|decide) only [go_sem,Zd,Za,simprocAttr,drG,f,e1,Ej,Bd,read1,Z6]<;>rfl))
     exact⟨_,_,(by simp (maxSteps:=9^6) +decide (disch:=first|omega|(simp only[lens]<;>omega)|decide) only [go_sem,Zd,Za,simprocAttr]<;>rfl),rfl,fun m hm=>by (first|(simp (discharger:=omega) only [H.get_put,H.Zf,H.Zk,H.Zc,H.Zh,H.Zi,if_neg]; done)|(simp only[H.get_put,H.Zf,H.Zk,H.Zc,H.Zh,H.Zi]; (repeat' split)<;>first|rfl|(exfalso; omega)|omega))⟩
    exact cc.quiet rfl hk
   ·rw[decide_eq_true z1,decide_eq_false z2] at e
    cases e
    obtain⟨v,h',cc,rfl,hk⟩:∃ v h',Zg K Tryz.prog 82 [.g [.int .i64 (a:Int),.int .i64 (b:Int),.int .i64 (c:Int),.int .i64 (d:Int)],.c (.int .i64 z)] h v h'∧v=.tup [.c (.int .i64 0),.c (.int .i64 0),.c (.bool false)]∧∀ m,m<h.next→h'.get m=h.get m:=by
     refine Zg.Yb fits Hh (by kernel_rfl) (by kernel_rfl) (by kernel_rfl) (show Tryz.f82.body=some _ from rfl) rfl ?_
     repeat (first|apply Goes.seq|apply Goes.block|apply Goes.loop|apply Goes.skip|apply Goes.exit|apply Goes.ret|((first|apply Goes.Zo|apply Goes.ops2 fits Hh (Zj Zb (fun _ _ _ _=>Br Hh))); · simp (maxSteps:=9^6) +decide (disch:=first|omega|(simp only[lens]<;>omega)|decide) only [go_sem,Zd,Za,simprocAttr,f,read1,Z6]<;>rfl)|(apply Goes.drawn2 fits Hh (Zj Zb (fun _ _ _ _=>Br Hh)) (by kernel_rfl); · simp (maxSteps:=9^6) +decide (disch:=first|omega|(simp only[lens]<;>omega)|decide) only [go_sem,Zd,Za,simprocAttr,drG,f,read1,Z6]<;>rfl))
     exact⟨_,_,(by simp (maxSteps:=9^6) +decide (disch:=first|omega|(simp only[lens]<;>omega)|decide) only [go_sem,Zd,Za,simprocAttr]<;>rfl),rfl,fun m hm=>by (first|(simp (discharger:=omega) only [H.get_put,H.Zf,H.Zk,H.Zc,H.Zh,H.Zi,if_neg]; done)|(simp only[H.get_put,H.Zf,H.Zk,H.Zc,H.Zh,H.Zi]; (repeat' split)<;>first|rfl|(exfalso; omega)|omega))⟩
    exact cc.quiet rfl hk
  ·rw[decide_eq_false z1] at e
   cases e
   obtain⟨v,h',cc,rfl,hk⟩:∃ v h',Zg K Tryz.prog 82 [.g [.int .i64 (a:Int),.int .i64 (b:Int),.int .i64 (c:Int),.int .i64 (d:Int)],.c (.int .i64 z)] h v h'∧v=.tup [.c (.int .i64 0),.c (.int .i64 0),.c (.bool false)]∧∀ m,m<h.next→h'.get m=h.get m:=by
    refine Zg.Yb fits Hh (by kernel_rfl) (by kernel_rfl) (by kernel_rfl) (show Tryz.f82.body=some _ from rfl) rfl ?_
    repeat (first|apply Goes.seq|apply Goes.block|apply Goes.loop|apply Goes.skip|apply Goes.exit|apply Goes.ret|((first|apply Goes.Zo|apply Goes.ops2 fits Hh (Zj Zb (fun _ _ _ _=>Br Hh))); · simp (maxSteps:=9^6) +decide (disch:=first|omega|(simp only[lens]<;>omega)|decide) only [go_sem,Zd,Za,simprocAttr,f,read1,Z6]<;>rfl)|(apply Goes.drawn2 fits Hh (Zj Zb (fun _ _ _ _=>Br Hh)) (by kernel_rfl); · simp (maxSteps:=9^6) +decide (disch:=first|omega|(simp only[lens]<;>omega)|decide) only [go_sem,Zd,Za,simprocAttr,drG,f,read1,Z6]<;>rfl))
    exact⟨_,_,(by simp (maxSteps:=9^6) +decide (disch:=first|omega|(simp only[lens]<;>omega)|decide) only [go_sem,Zd,Za,simprocAttr]<;>rfl),rfl,fun m hm=>by (first|(simp (discharger:=omega) only [H.get_put,H.Zf,H.Zk,H.Zc,H.Zh,H.Zi,if_neg]; done)|(simp only[H.get_put,H.Zf,H.Zk,H.Zc,H.Zh,H.Zi]; (repeat' split)<;>first|rfl|(exfalso; omega)|omega))⟩
   exact cc.quiet rfl hk
 ·cases e
theorem Rw {args:List W} {h h':Go.Ev.H} {v:V} (e:Zim args h=some (v,h')):Zg K Tryz.prog 45 args h v h':=by
 unfold Zim at e
 split at e
 ·rename_i z
  obtain⟨a,b,c,d,rfl,rfl,rfl,rfl,f,e⟩:=Gf e
  obtain⟨g1,g2,g3,g4,g5,g6,g7,g8,g9,g10,g11⟩:=Yc f
  have b0:a * c≤4 * 64:=Nat.mul_le_mul (by omega) (by omega)
  rcases bz:decide (1≤z)&&decide (z≤((a * c:Nat):Int)) with _|_
  ·rw[bz] at e
   cases e
   obtain⟨v,h',cc,rfl,hk⟩:∃ v h',Zg K Tryz.prog 45 [.g [.int .i64 (a:Int),.int .i64 (b:Int),.int .i64 (c:Int),.int .i64 (d:Int)],.c (.int .i64 z)] h v h'∧v=.tup [.c (.int .i64 0),.c (.int .i64 0),.c (.bool false)]∧∀ m,m<h.next→h'.get m=h.get m:=by
    refine Zg.Yb fits Hh (by kernel_rfl) (by kernel_rfl) (by kernel_rfl) (show Tryz.f45.body=some _ from rfl) rfl ?_
    repeat (first|apply Goes.seq|apply Goes.block|apply Goes.loop|apply Goes.skip|apply Goes.exit|apply Goes.ret|((first|apply Goes.Zo|apply Goes.ops2 fits Hh (Zj (Zj Zb (fun _ _ _ _=>M9 Hh)) (fun _ _ _ _=>Ws Hh))); · simp (maxSteps:=9^6) +decide (disch:=first|omega|(simp only[lens]<;>omega)|decide) only [go_sem,Zd,Za,simprocAttr,f,bz,read1,Z6]<;>rfl))
    exact⟨_,_,(by simp (maxSteps:=9^6) +decide (disch:=first|omega|(simp only[lens]<;>omega)|decide) only [go_sem,Zd,Za,simprocAttr]<;>rfl),rfl,fun m hm=>by (first|(simp (discharger:=omega) only [H.get_put,H.Zf,H.Zk,H.Zc,H.Zh,H.Zi,if_neg]; done)|(simp only[H.get_put,H.Zf,H.Zk,H.Zc,H.Zh,H.Zi]; (repeat' split)<;>first|rfl|(exfalso; omega)|omega))⟩
   exact cc.quiet rfl hk
  rw[bz] at e
  simp only[Bool.and_eq_true,decide_eq_true_eq] at bz
  obtain⟨z1,z2⟩:=bz
  cases e
  obtain⟨j,hj⟩:∃ j,z.toNat - 1=j:=⟨_,rfl⟩
  obtain rfl:z=((j+1:Nat):Int):=by omega
  rw[hj]
  have hk0:j / c<a:=Nat.div_lt_of_lt_mul (by rw[Nat.mul_comm]; omega)
  have hm:j % c<c:=Nat.mod_lt _ (by omega)
  have b1:j / c * b≤a * b:=Nat.mul_le_mul (by omega) (by omega)
  have hz:(((j+1:Nat):Int).toNat - 1)=j:=hj
  obtain⟨k,hk⟩:∃ k,j / c=k:=⟨_,rfl⟩
  obtain⟨r,hr⟩:∃ r,j % c=r:=⟨_,rfl⟩
  rw[hk] at hk0 b1
  rw[hr] at hm
  rw[hk,hr]
  have d1:decide (1≤((j+1:Nat):Int))=true:=decide_eq_true z1
  have d2:decide (((j+1:Nat):Int)≤((a * c:Nat):Int))=true:=decide_eq_true z2
  obtain⟨q,hq⟩:∃ q,k * b=q:=⟨_,rfl⟩
  rw[hq] at b1 ⊢
  obtain⟨v,h',cc,rfl,hk⟩:∃ v h',Zg K Tryz.prog 45 [.g [.int .i64 (a:Int),.int .i64 (b:Int),.int .i64 (c:Int),.int .i64 (d:Int)],.c (.int .i64 ((j+1:Nat):Int))] h v h'∧v=.tup [.c (.int .i64 ((2+d+q+2+r / 4:Nat):Int)),.c (.int .i64 ((r % 4 * 64:Nat):Int)),.c (.bool true)]∧∀ m,m<h.next→h'.get m=h.get m:=by
   refine Zg.Yb fits Hh (by kernel_rfl) (by kernel_rfl) (by kernel_rfl) (show Tryz.f45.body=some _ from rfl) rfl ?_
   repeat (first|apply Goes.seq|apply Goes.block|apply Goes.loop|apply Goes.skip|apply Goes.exit|apply Goes.ret|((first|apply Goes.Zo|apply Goes.ops2 fits Hh (Zj (Zj Zb (fun _ _ _ _=>M9 Hh)) (fun _ _ _ _=>Ws Hh))); · simp (maxSteps:=9^6) +decide (disch:=first|omega|(simp only[lens]<;>omega)|decide) only [go_sem,Zd,Za,simprocAttr,f,d1,d2,hz,hk,hr,hq,Ej,Bd,read1,Z6]<;>rfl))
   exact⟨_,_,(by simp (maxSteps:=9^6) +decide (disch:=first|omega|(simp only[lens]<;>omega)|decide) only [go_sem,Zd,Za,simprocAttr]<;>rfl),rfl,fun m hm=>by (first|(simp (discharger:=omega) only [H.get_put,H.Zf,H.Zk,H.Zc,H.Zh,H.Zi,if_neg]; done)|(simp only[H.get_put,H.Zf,H.Zk,H.Zc,H.Zh,H.Zi]; (repeat' split)<;>first|rfl|(exfalso; omega)|omega))⟩
  exact cc.quiet rfl hk
 ·cases e
end
end Go.Proofs.YtdkcjalmhdofcaaGreatDoor
set_option maxRecDepth 100000
set_option maxHeartbeats 4000000
namespace Go.Proofs.YtdkcjalmhdofcaaGreatDoor
open Go.Ev
theorem rs29:Tryz.f29.results.toList=[.cell 2 24]:=rfl
theorem rs78:Tryz.f78.results.toList=[.tmp 2]:=rfl
theorem rs79:Tryz.f79.results.toList=[.tmp 2]:=rfl
theorem rs44:Tryz.f44.results.toList=[.tmp 2]:=rfl
theorem rs27:Tryz.f27.results.toList=[.tmp 2]:=rfl
theorem rs32:Tryz.f32.results.toList=[.tmp 4]:=rfl
theorem rs30:Tryz.f30.results.toList=[.tmp 4]:=rfl
attribute [go_sem] rs29 rs78 rs79 rs44 rs27 rs32 rs30
noncomputable def Zvw:Kn1:=fun args h=>match args with
 | [.c (.ptr s 0)]=>(Dq h s).bind fun S=>(F8 h S.gd).bind fun G=>some (.w (.g (Yo G.gr G.sz G.ino G.jr)),h)
 | _=>none
noncomputable def Znx:Kn1:=fun args h=>match args with
 | [.c (.ptr s 0)]=>(Dq h s).bind fun _=>some (.w (.c (.bool false)),h)
 | _=>none
noncomputable def Zt0:Kn1:=fun args h=>match args with
 | [.c (.ptr s 0)]=>(Dq h s).bind fun S=>(Ox h S.tx).bind fun X=>some (.w (.c (.bool X.op)),h)
 | _=>none
noncomputable def Zo2:Kn1:=fun args h=>match args with
 | [.c (.ptr s 0)]=>(Dq h s).bind fun S=>(F8 h S.gd).bind fun _=>some (.w (.c (.int .i64 0)),h)
 | _=>none
noncomputable def Zov:Kn1:=fun args h=>match args with
 | [.c (.ptr s 0)]=>(Dq h s).bind fun S=>(F8 h S.gd).bind fun _=>(Ox h S.tx).bind fun X=>Yt X.op (some (.w (.c (.int .i64 0)),h))
 | _=>none
noncomputable def Zdy:Kn1:=fun args h=>match args with
 | [.g [.int .i64 a,.int .i64 b,.int .i64 c,.int .i64 d],.c (.int .i64 k)]=>Wq a b c d fun a b _ d=>(Jy k).bind fun k=>Yt (decide (k<a)) (some (.w (.c (.int .i64 ((2+d+k * b+1:Nat):Int))),h))
 | _=>none
noncomputable def Zja:Kn1:=fun args h=>match args with
 | [.g [a,b,c,d],.c z]=>some (.w (.c (.fn 81 [] [some (h.next,0),some (h.next+1,0)])),(h.new (.row 4 [[a,b,c,d]] false)).new (.row 1 [[z]] false))
 | _=>none
attribute [go_sem] Zvw Znx Zt0 Zo2 Zov Zdy Zja
section
variable (Hh:Hearts K Tryz.prog)
include Hh
theorem Gy {args:List W} {h h':Go.Ev.H} {v:V} (e:Zvw args h=some (v,h')):Zg K Tryz.prog 29 args h v h':=by
 unfold Zvw at e
 split at e
 ·rename_i s
  obtain⟨S,hs,e⟩:=Zq e
  have hs:=Je hs
  obtain⟨G,hg,e⟩:=Zq e
  obtain⟨hg,fb⟩:=Uj hg
  cases e
  refine Zg.tidy ⟨Tryz.f29,Tryz.func29,by kernel_rfl,by decide⟩ fun tidy=>?_
  have l1:=tidy _ _ hs
  have l2:=tidy _ _ hg
  have gl4:Zd 9 [gdL G] 0 4=some (Yo G.gr G.sz G.ino G.jr):=rfl
  have gl5:∀ x:List C,x.length≤4∧4≤x.length→Z4 4 [x] 0 (Yo G.gr G.sz G.ino G.jr)=some [Yo G.gr G.sz G.ino G.jr]:=fun x hx=>L6 ⟨Nat.le_refl 4,Nat.le_refl 4,hx.1,hx.2,by omega⟩
  have gl6:Zd 4 [Yo G.gr G.sz G.ino G.jr] 0 4=some (Yo G.gr G.sz G.ino G.jr):=rfl
  obtain⟨v,h',c,rfl,hk⟩:∃ v h',Zg K Tryz.prog 29 [.c (.ptr s 0)] h v h'∧v=.w (.g (Yo G.gr G.sz G.ino G.jr))∧∀ m,m<h.next→h'.get m=h.get m:=by
   refine Zg.Yb fits Hh (by kernel_rfl) (by kernel_rfl) (by kernel_rfl) (show Tryz.f29.body=some _ from rfl) rfl ?_
   repeat (first|apply Goes.seq|apply Goes.block|apply Goes.loop|apply Goes.skip|apply Goes.exit|apply Goes.ret|((first|apply Goes.Zo|apply Goes.ops2 fits Hh (Zj Zb (fun _ _ _ _=>Ol Hh))); · simp (maxSteps:=9^6) +decide (disch:=first|omega|(simp only[lens]<;>omega)|decide) only [go_sem,Za,simprocAttr,hs,hg,gl4,gl5,gl6,read1]<;>rfl))
   exact⟨_,_,(by simp (maxSteps:=9^6) +decide (disch:=first|omega|(simp only[lens]<;>omega)|decide) only [go_sem,Za,simprocAttr,gl6]<;>rfl),rfl,fun m hm=>by (first|(simp (discharger:=omega) only [H.get_put,H.Zf,H.Zk,H.Zc,H.Zh,H.Zi,if_neg]; done)|(simp only[H.get_put,H.Zf,H.Zk,H.Zc,H.Zh,H.Zi]; (repeat' split)<;>first|rfl|(exfalso; omega)|omega))⟩
  exact c.quiet rfl hk
 ·cases e
theorem Zgx {args:List W} {h h':Go.Ev.H} {v:V} (e:Znx args h=some (v,h')):Zg K Tryz.prog 78 args h v h':=by
 unfold Znx at e
 split at e
 ·rename_i s
  obtain⟨S,hs,e⟩:=Zq e
  have hs:=Je hs
  cases e
  refine Zg.goes fits Hh (by kernel_rfl) (by kernel_rfl) (by kernel_rfl) (show Tryz.f78.body=some _ from rfl) rfl ?_
  repeat (first|apply Goes.seq|apply Goes.block|apply Goes.loop|apply Goes.skip|apply Goes.exit|apply Goes.ret|((first|apply Goes.Zo|apply Goes.ops2 fits Hh (Zj Zb (fun _ _ _ _=>Ol Hh))); · simp (maxSteps:=9^6) +decide (disch:=first|omega|(simp only[lens]<;>omega)|decide) only [go_sem,Zd,Za,simprocAttr,hs,read1]<;>rfl))
  simp (maxSteps:=9^6) +decide (disch:=first|omega|(simp only[lens]<;>omega)|decide) only [go_sem,Zd,Za,simprocAttr]<;>rfl
 ·cases e
theorem Zma {args:List W} {h h':Go.Ev.H} {v:V} (e:Zt0 args h=some (v,h')):Zg K Tryz.prog 79 args h v h':=by
 unfold Zt0 at e
 split at e
 ·rename_i s
  obtain⟨S,hs,e⟩:=Zq e
  have hs:=Je hs
  obtain⟨X,ht,e⟩:=Zq e
  have ht:=Yv ht
  cases e
  refine Zg.goes fits Hh (by kernel_rfl) (by kernel_rfl) (by kernel_rfl) (show Tryz.f79.body=some _ from rfl) rfl ?_
  repeat (first|apply Goes.seq|apply Goes.block|apply Goes.loop|apply Goes.skip|apply Goes.exit|apply Goes.ret|((first|apply Goes.Zo|apply Goes.ops2 fits Hh (Zj (Zj Zb (fun _ _ _ _=>Ol Hh)) (fun _ _ _ _=>Zbv Hh))); · simp (maxSteps:=9^6) +decide (disch:=first|omega|(simp only[lens]<;>omega)|decide) only [go_sem,Zd,Za,simprocAttr,hs,ht,read1]<;>rfl))
  simp (maxSteps:=9^6) +decide (disch:=first|omega|(simp only[lens]<;>omega)|decide) only [go_sem,Zd,Za,simprocAttr]<;>rfl
 ·cases e
theorem Zbh {args:List W} {h h':Go.Ev.H} {v:V} (e:Zo2 args h=some (v,h')):Zg K Tryz.prog 44 args h v h':=by
 unfold Zo2 at e
 split at e
 ·rename_i s
  obtain⟨S,hs,e⟩:=Zq e
  have hs:=Je hs
  obtain⟨G,hg,e⟩:=Zq e
  obtain⟨hg,fb⟩:=Uj hg
  cases e
  refine Zg.goes fits Hh (by kernel_rfl) (by kernel_rfl) (by kernel_rfl) (show Tryz.f44.body=some _ from rfl) rfl ?_
  repeat (first|apply Goes.seq|apply Goes.block|apply Goes.loop|apply Goes.skip|apply Goes.exit|apply Goes.ret|((first|apply Goes.Zo|apply Goes.ops2 fits Hh (Zj (Zj Zb (fun _ _ _ _=>Gy Hh)) (fun _ _ _ _=>U7 Hh))); · simp (maxSteps:=9^6) +decide (disch:=first|omega|(simp only[lens]<;>omega)|decide) only [go_sem,Zd,Za,simprocAttr,hs,hg,gdL,fb,Yo]<;>rfl))
  simp (maxSteps:=9^6) +decide (disch:=first|omega|(simp only[lens]<;>omega)|decide) only [go_sem,Zd,Za,simprocAttr]<;>rfl
 ·cases e
theorem Zgt {args:List W} {h h':Go.Ev.H} {v:V} (e:Zov args h=some (v,h')):Zg K Tryz.prog 27 args h v h':=by
 unfold Zov at e
 split at e
 ·rename_i s
  obtain⟨S,hs,e⟩:=Zq e
  have hs:=Je hs
  obtain⟨G,hg,e⟩:=Zq e
  obtain⟨hg,fb⟩:=Uj hg
  obtain⟨X,ht,e⟩:=Zq e
  have ht:=Yv ht
  obtain⟨bo,e⟩:=Zv.1 e
  cases e
  refine Zg.goes fits Hh (by kernel_rfl) (by kernel_rfl) (by kernel_rfl) (show Tryz.f27.body=some _ from rfl) rfl ?_
  repeat (first|apply Goes.seq|apply Goes.block|apply Goes.loop|apply Goes.skip|apply Goes.exit|apply Goes.ret|((first|apply Goes.Zo|apply Goes.ops2 fits Hh (Zj (Zj (Zj Zb (fun _ _ _ _=>Zbh Hh)) (fun _ _ _ _=>Zgx Hh)) (fun _ _ _ _=>Zma Hh))); · simp (maxSteps:=9^6) +decide (disch:=first|omega|(simp only[lens]<;>omega)|decide) only [go_sem,Zd,Za,simprocAttr,hs,ht,hg,gdL,fb,bo]<;>rfl))
  simp (maxSteps:=9^6) +decide (disch:=first|omega|(simp only[lens]<;>omega)|decide) only [go_sem,Zd,Za,simprocAttr]<;>rfl
 ·cases e
theorem Mc {args:List W} {h h':Go.Ev.H} {v:V} (e:Zdy args h=some (v,h')):Zg K Tryz.prog 32 args h v h':=by
 unfold Zdy at e
 split at e
 ·obtain⟨a,b,c,d,rfl,rfl,rfl,rfl,f,e⟩:=Gf e
  obtain⟨g1,g2,g3,g4,g5,g6,g7,g8,g9,g10,g11⟩:=Yc f
  obtain⟨k,hk,e⟩:=Zq e
  obtain⟨bk,e⟩:=Zv.1 e
  have kl:=of_decide_eq_true bk
  cases e
  rw[Z8 hk]
  have b1:k * b≤a * b:=Nat.mul_le_mul (by omega) (by omega)
  obtain⟨q,hq⟩:∃ q,k * b=q:=⟨_,rfl⟩
  have e1:((2+d+q:Nat):Int)+1=((2+d+q+1:Nat):Int):=rfl
  rw[hq] at b1 ⊢
  obtain⟨v,h',cc,rfl,hk⟩:∃ v h',Zg K Tryz.prog 32 [.g [.int .i64 (a:Int),.int .i64 (b:Int),.int .i64 (c:Int),.int .i64 (d:Int)],.c (.int .i64 (k:Int))] h v h'∧v=.w (.c (.int .i64 ((2+d+q+1:Nat):Int)))∧∀ m,m<h.next→h'.get m=h.get m:=by
   refine Zg.Yb fits Hh (by kernel_rfl) (by kernel_rfl) (by kernel_rfl) (show Tryz.f32.body=some _ from rfl) rfl ?_
   repeat (first|apply Goes.seq|apply Goes.block|apply Goes.loop|apply Goes.skip|apply Goes.exit|apply Goes.ret|((first|apply Goes.Zo|apply Goes.ops2 fits Hh (Zj Zb (fun _ _ _ _=>Ws Hh))); · simp (maxSteps:=9^6) +decide (disch:=first|omega|(simp only[lens]<;>omega)|decide) only [go_sem,Zd,Za,simprocAttr,f,hq,e1,read1,Z6]<;>rfl))
   exact⟨_,_,(by simp (maxSteps:=9^6) +decide (disch:=first|omega|(simp only[lens]<;>omega)|decide) only [go_sem,Zd,Za,simprocAttr]<;>rfl),rfl,fun m hm=>by (first|(simp (discharger:=omega) only [H.get_put,H.Zf,H.Zk,H.Zc,H.Zh,H.Zi,if_neg]; done)|(simp only[H.get_put,H.Zf,H.Zk,H.Zc,H.Zh,H.Zi]; (repeat' split)<;>first|rfl|(exfalso; omega)|omega))⟩
  exact cc.quiet rfl hk
 ·cases e
theorem Zms {args:List W} {h h':Go.Ev.H} {v:V} (e:Zja args h=some (v,h')):Zg K Tryz.prog 30 args h v h':=by
 unfold Zja at e
 split at e
 ·cases e
  refine Zg.goes fits Hh (by kernel_rfl) (by kernel_rfl) (by kernel_rfl) (show Tryz.f30.body=some _ from rfl) rfl ?_
  repeat (first|apply Goes.seq|apply Goes.block|apply Goes.loop|apply Goes.skip|apply Goes.exit|apply Goes.ret|((first|apply Goes.Zo|apply Goes.ops2 fits Hh Zb); · simp (maxSteps:=9^6) +decide (disch:=first|omega|(simp only[lens]<;>omega)|decide) only [go_sem,Zd,Za,simprocAttr,Z6]<;>rfl))
  simp (maxSteps:=9^6) +decide (disch:=first|omega|(simp only[lens]<;>omega)|decide) only [go_sem,Zd,Za,simprocAttr]<;>rfl
 ·cases e
end
end Go.Proofs.YtdkcjalmhdofcaaGreatDoor
set_option maxRecDepth 100000
set_option maxHeartbeats 4000000
namespace Go.Proofs.YtdkcjalmhdofcaaGreatDoor
open Go.Ev
theorem Mw {a b c e z:Nat} (F:Fine a b c e) (h1:2+e≤z) (h2:z<2+e+a * b):Dj a b c e (z:Int)=true:=by
 obtain⟨g1,g2,g3,g4,g5,g6,g7,g8,g9,g10,g11⟩:=F
 unfold Dj
 rw[decide_eq_true (by omega),Int.toNat_natCast]
 unfold Gm
 rw[if_neg (by omega),if_neg (by omega),if_neg (by omega),if_neg (by omega)]
 split
 ·rfl
 ·split
  ·rfl
  ·split<;>rfl
theorem Zfl (a b c e:Nat):Dj a b c e ((1:Nat):Int)=true:=by
 unfold Dj
 rw[decide_eq_true (by omega),Int.toNat_natCast]
 unfold Gm
 rw[if_neg (by omega),if_pos (by omega)]
 rfl
def Seen (lm:Gt) (L:List (List C)):Prop:=∀ (z:Nat) (y:List C),Y5 (z:Int) lm=some y→∃ x,L[z]? = some x∧y=x++[.bool false]
theorem Zu8 (L:List (List C)):Seen [] L:=fun _ _ e=>by cases e
theorem Seen.upd {lm:Gt} {L:List (List C)} (s:Seen lm L) {z:Nat} {x:List C} (hx:L[z]? = some x):Seen (Gh (z:Int) (x++[.bool false]) lm) L:=fun z' y e=>by
 rw[Lf] at e
 by_cases q:((z':Int)=z)
 ·obtain rfl:z'=z:=by omega
  rw[if_pos rfl] at e
  cases e
  exact⟨x,hx,rfl⟩
 ·rw[if_neg q] at e
  exact s z' y e
def At (lc:Gt) (L:List (List C)) (z:Nat) (x:List C):Prop:=Y5 (z:Int) lc=some x∨Y5 (z:Int) lc=none∧L[z]? = some x
def stG (n q:Nat) (kn:Bool):Stt:=⟨n+12,n+20,q,q+1,.snil,kn⟩
def txG (n q:Nat) (cr:Int):Tx:=⟨n+15,n+16,n+17,n+19,1,true,cr,0,.map (q+2),.map (q+6),.map (q+7),.map (q+8),.ptr (q+5) 0⟩
def Off (n q m:Nat):Prop:=m≠n+6∧m≠n+13∧m≠n+15∧m≠n+17∧m≠q+2
def Zpm (lt:Gt):Prop:=∀ z y,Y5 z lt=some y→y=[]
theorem Zpm.upd {lt:Gt} (v:Zpm lt) (z:Int):Zpm (Gh z [] lt):=fun z' y e=>by
 rw[Lf] at e
 split at e
 ·cases e; rfl
 ·exact v z' y e
theorem At.upd {lc:Gt} {L:List (List C)} {z z2:Nat} {x y:List C} (h:At lc L z2 y) (ne:z2≠z):At (Gh (z:Int) x lc) L z2 y:=by
 unfold At at h ⊢
 rw[Lf,if_neg (by omega)]
 exact h
theorem At.put (lc:Gt) (L:List (List C)) (z:Nat) (x:List C):At (Gh (z:Int) x lc) L z x:=by
 unfold At
 rw[Lf,if_pos rfl]
 exact .inl rfl
noncomputable def Zq8 (n q:Nat) (lt lc:Gt) (h:Go.Ev.H):Go.Ev.H:=(((h.put (n+13) (.row 8 [stL (stG n q false)] false)).put (q+2) (.map (J9 lt))).put (n+15) (.map (J9 lc))).put (n+17) (.map [])
theorem Zlk {n q:Nat} {h:Go.Ev.H} (lt' lc':Gt) {m:Nat} (o:m≠n+13∧m≠n+15∧m≠n+17∧m≠q+2):(Zq8 n q lt' lc' h).get m=h.get m:=by
 unfold Zq8
 rw[Zu o.2.2.1,Zu o.2.1,Zu o.2.2.2,Zu o.1]
end Go.Proofs.YtdkcjalmhdofcaaGreatDoor
