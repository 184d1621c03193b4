/- geo of a geometry that may be, as the walks ask it: data, groups' starts, inodes. -/
import Derived.Test.YtmdibcklpmeleaaGreatDoorNew2
set_option linter.unusedSimpArgs false
set_option linter.unusedVariables false
set_option linter.unusedSectionVars false
set_option maxRecDepth 100000
set_option maxHeartbeats 4000000
namespace Go.Proofs.YtmdibcklpmeleaaGreatDoor
open Go.Ev
noncomputable def Zbc (a b c d:Int) (k:Nat→Nat→Nat→Nat→Option (V × Go.Ev.H)):Option (V × Go.Ev.H):=(J4 a).bind fun a=>(J4 b).bind fun b=>(J4 c).bind fun c=>(J4 d).bind fun d=>Y2 (U7 a b c d) (k a b c d)
theorem Gq {a b c d:Int} {k:Nat→Nat→Nat→Nat→Option (V × Go.Ev.H)} {r:V × Go.Ev.H} (e:Zbc a b c d k=some r):∃ a' b' c' d':Nat,a=a'∧b=b'∧c=c'∧d=d'∧U7 a' b' c' d'=true∧k a' b' c' d'=some r:=by
 obtain⟨a',ha,e⟩:=Zo e
 obtain⟨b',hb,e⟩:=Zo e
 obtain⟨c',hc,e⟩:=Zo e
 obtain⟨d',hd,e⟩:=Zo e
 obtain⟨f,e⟩:=Zu.1 e
 exact⟨a',b',c',d',Z6 ha,Z6 hb,Z6 hc,Z6 hd,f,e⟩
noncomputable def Zv0:Kn1:=fun args h=>match args with
 | [.g [.int .i64 a,.int .i64 b,.int .i64 c,.int .i64 d]]=>Zbc a b c d fun _ b c _=>some (.w (.c (.int .i64 ((b - 2 - c / 4:Nat):Int))),h)
 | _=>none
noncomputable def Zp9:Kn1:=fun args h=>match args with
 | [.g [.int .i64 a,.int .i64 b,.int .i64 c,.int .i64 d],.c (.int .i64 k)]=>Zbc a b c d fun a b _ d=>(J4 k).bind fun k=>Y2 (decide (k<a)) (some (.tup [.c (.int .i64 ((2+d+k * b:Nat):Int)),.c (.bool true)],h))
 | _=>none
noncomputable def Zjc:Kn1:=fun args h=>match args with
 | [.g [.int .i64 a,.int .i64 b,.int .i64 c,.int .i64 d]]=>Zbc a b c d fun a _ c _=>some (.w (.c (.int .i64 ((a * c:Nat):Int))),h)
 | _=>none
noncomputable def Z6q:Kn1:=fun args h=>match args with
 | [.g [.int .i64 a,.int .i64 b,.int .i64 c,.int .i64 d],.c (.int .i64 k),.c (.int .i64 i)]=>Zbc a b c d fun a _ c _=>(J4 k).bind fun k=>(J4 i).bind fun i=>Y2 (decide (k<a)&&decide (i<c)) (some (.w (.c (.int .i64 ((k * c+i+1:Nat):Int))),h))
 | _=>none
noncomputable def Zvb:Kn1:=fun args h=>match args with
 | [.g [.int .i64 a,.int .i64 b,.int .i64 c,.int .i64 d],.c (.int .i64 z)]=>Zbc a b c d fun a _ c _=>bif decide (1≤z)&&decide (z≤((a * c:Nat):Int)) then some (.tup [.c (.int .i64 (((z.toNat - 1) / c:Nat):Int)),.c (.int .i64 (((z.toNat - 1) % c:Nat):Int)),.c (.bool true)],h) else some (.tup [.c (.int .i64 0),.c (.int .i64 0),.c (.bool false)],h)
 | _=>none
noncomputable def Zrr:Kn1:=fun args h=>match args with
 | [.g [.int .i64 a,.int .i64 b,.int .i64 c,.int .i64 d],.c (.int .i64 z)]=>Zbc a b c d fun a b c d=>bif decide (1≤z)&&decide (z≤((a * c:Nat):Int)) then some (.tup [.c (.int .i64 ((2+d+(z.toNat - 1) / c * b+2+(z.toNat - 1) % c / 4:Nat):Int)),.c (.int .i64 (((z.toNat - 1) % c % 4 * 64:Nat):Int)),.c (.bool true)],h) else some (.tup [.c (.int .i64 0),.c (.int .i64 0),.c (.bool false)],h)
 | _=>none
attribute [go_sem] Zbc Zv0 Zp9 Zjc Z6q Zvb Zrr
section
variable (Hh:Hearts K Tryz.prog)
include Hh
theorem Zgo {args:List W} {h h':Go.Ev.H} {v:V} (e:Zv0 args h=some (v,h')):Zd K Tryz.prog 98 args h v h':=by
 unfold Zv0 at e
 split at e
 ·obtain⟨a,b,c,d,rfl,rfl,rfl,rfl,f,e⟩:=Gq e
  obtain⟨g1,g2,g3,g4,g5,g6,g7,g8,g9,g10,g11⟩:=Yn f
  cases e
  have q1:V5 .i64 (c:Int) 4=some (.int .i64 ((c / 4:Nat):Int)):=Lt (b:=4) (by omega) (by omega)
  have e2:(b:Int) - 2=((b - 2:Nat):Int):=by omega
  have e3:((b - 2:Nat):Int) - ((c / 4:Nat):Int)=((b - 2 - c / 4:Nat):Int):=by omega
  obtain⟨v,h',cc,rfl,hk⟩:∃ v h',Zd K Tryz.prog 98 [.g [.int .i64 (a:Int),.int .i64 (b:Int),.int .i64 (c:Int),.int .i64 (d:Int)]] h v h'∧v=.w (.c (.int .i64 ((b - 2 - c / 4:Nat):Int)))∧∀ m,m<h.next→h'.get m=h.get m:=by
   refine Zd.Ya fits Hh (by kernel_rfl) (by kernel_rfl) (by kernel_rfl) (show Tryz.f98.body=some _ from rfl) rfl ?_
   repeat (first
    | refine Goes.seq ?_
    | refine Goes.block ?_
    | refine Goes.loop ?_
    | refine Goes.skip ?_
    | refine Goes.exit ?_
    | refine Goes.ret ?_
    | refine Goes.Z4 (by simp (maxSteps:=9^6) +decide (disch:=first|omega|(simp only[lens]<;>omega)|decide) only [go_sem,Zc,Za,simprocAttr,f,q1,e2,e3,read1,Zn]<;>rfl) ?_
    | refine Goes.ops2 fits Hh (Zf Zb (fun _ _ _ _=>O4 Hh)) (by simp (maxSteps:=9^6) +decide (disch:=first|omega|(simp only[lens]<;>omega)|decide) only [go_sem,Zc,Za,simprocAttr,f,q1,e2,e3,read1,Zn]; rfl) ?_)
   exact⟨_,_,(by simp (maxSteps:=9^6) +decide (disch:=first|omega|(simp only[lens]<;>omega)|decide) only [go_sem,Zc,Za,simprocAttr]<;>rfl),rfl,fun m hm=>by (first|(simp (discharger:=omega) only [H.get_put,H.Zh,H.Zk,H.Ze,H.Zg,H.Zj,if_neg]; done)|(simp only[H.get_put,H.Zh,H.Zk,H.Ze,H.Zg,H.Zj]; (repeat' split)<;>first|rfl|(exfalso; omega)|omega))⟩
  exact cc.quiet rfl hk
 ·cases e
theorem X0 {args:List W} {h h':Go.Ev.H} {v:V} (e:Zp9 args h=some (v,h')):Zd K Tryz.prog 55 args h v h':=by
 unfold Zp9 at e
 split at e
 ·obtain⟨a,b,c,d,rfl,rfl,rfl,rfl,f,e⟩:=Gq e
  obtain⟨g1,g2,g3,g4,g5,g6,g7,g8,g9,g10,g11⟩:=Yn f
  obtain⟨k,hk,e⟩:=Zo e
  obtain⟨bk,e⟩:=Zu.1 e
  have kl:=of_decide_eq_true bk
  cases e
  rw[Z6 hk]
  have b1:k * b≤a * b:=Nat.mul_le_mul (by omega) (by omega)
  have gi:(k:Int) * (b:Int)=((k * b:Nat):Int):=rfl
  obtain⟨v,h',cc,rfl,hk⟩:∃ v h',Zd K Tryz.prog 55 [.g [.int .i64 (a:Int),.int .i64 (b:Int),.int .i64 (c:Int),.int .i64 (d:Int)],.c (.int .i64 (k:Int))] h v h'∧v=.tup [.c (.int .i64 ((2+d+k * b:Nat):Int)),.c (.bool true)]∧∀ m,m<h.next→h'.get m=h.get m:=by
   refine Zd.Ya fits Hh (by kernel_rfl) (by kernel_rfl) (by kernel_rfl) (show Tryz.f55.body=some _ from rfl) rfl ?_
   repeat (first
    | refine Goes.seq ?_
    | refine Goes.block ?_
    | refine Goes.loop ?_
    | refine Goes.skip ?_
    | refine Goes.exit ?_
    | refine Goes.ret ?_
    | refine Goes.Z4 (by simp (maxSteps:=9^6) +decide (disch:=first|omega|(simp only[lens]<;>omega)|decide) only [go_sem,Zc,Za,simprocAttr,f,gi,read1,Zn]<;>rfl) ?_
    | refine Goes.ops2 fits Hh (Zf Zb (fun _ _ _ _=>O4 Hh)) (by simp (maxSteps:=9^6) +decide (disch:=first|omega|(simp only[lens]<;>omega)|decide) only [go_sem,Zc,Za,simprocAttr,f,gi,read1,Zn]; rfl) ?_)
   exact⟨_,_,(by simp (maxSteps:=9^6) +decide (disch:=first|omega|(simp only[lens]<;>omega)|decide) only [go_sem,Zc,Za,simprocAttr]<;>rfl),rfl,fun m hm=>by (first|(simp (discharger:=omega) only [H.get_put,H.Zh,H.Zk,H.Ze,H.Zg,H.Zj,if_neg]; done)|(simp only[H.get_put,H.Zh,H.Zk,H.Ze,H.Zg,H.Zj]; (repeat' split)<;>first|rfl|(exfalso; omega)|omega))⟩
  exact cc.quiet rfl hk
 ·cases e
theorem Gv {args:List W} {h h':Go.Ev.H} {v:V} (e:Zjc args h=some (v,h')):Zd K Tryz.prog 90 args h v h':=by
 unfold Zjc at e
 split at e
 ·obtain⟨a,b,c,d,rfl,rfl,rfl,rfl,f,e⟩:=Gq e
  obtain⟨g1,g2,g3,g4,g5,g6,g7,g8,g9,g10,g11⟩:=Yn f
  cases e
  have b1:a * c≤4 * 64:=Nat.mul_le_mul (by omega) (by omega)
  have gi:(a:Int) * (c:Int)=((a * c:Nat):Int):=rfl
  obtain⟨v,h',cc,rfl,hk⟩:∃ v h',Zd K Tryz.prog 90 [.g [.int .i64 (a:Int),.int .i64 (b:Int),.int .i64 (c:Int),.int .i64 (d:Int)]] h v h'∧v=.w (.c (.int .i64 ((a * c:Nat):Int)))∧∀ m,m<h.next→h'.get m=h.get m:=by
   refine Zd.Ya fits Hh (by kernel_rfl) (by kernel_rfl) (by kernel_rfl) (show Tryz.f90.body=some _ from rfl) rfl ?_
   repeat (first
    | refine Goes.seq ?_
    | refine Goes.block ?_
    | refine Goes.loop ?_
    | refine Goes.skip ?_
    | refine Goes.exit ?_
    | refine Goes.ret ?_
    | refine Goes.Z4 (by simp (maxSteps:=9^6) +decide (disch:=first|omega|(simp only[lens]<;>omega)|decide) only [go_sem,Zc,Za,simprocAttr,f,gi,read1,Zn]<;>rfl) ?_
    | refine Goes.ops2 fits Hh (Zf Zb (fun _ _ _ _=>O4 Hh)) (by simp (maxSteps:=9^6) +decide (disch:=first|omega|(simp only[lens]<;>omega)|decide) only [go_sem,Zc,Za,simprocAttr,f,gi,read1,Zn]; rfl) ?_)
   exact⟨_,_,(by simp (maxSteps:=9^6) +decide (disch:=first|omega|(simp only[lens]<;>omega)|decide) only [go_sem,Zc,Za,simprocAttr]<;>rfl),rfl,fun m hm=>by (first|(simp (discharger:=omega) only [H.get_put,H.Zh,H.Zk,H.Ze,H.Zg,H.Zj,if_neg]; done)|(simp only[H.get_put,H.Zh,H.Zk,H.Ze,H.Zg,H.Zj]; (repeat' split)<;>first|rfl|(exfalso; omega)|omega))⟩
  exact cc.quiet rfl hk
 ·cases e
theorem Zny {args:List W} {h h':Go.Ev.H} {v:V} (e:Zvb args h=some (v,h')):Zd K Tryz.prog 44 args h v h':=by
 unfold Zvb at e
 split at e
 ·rename_i z
  obtain⟨a,b,c,d,rfl,rfl,rfl,rfl,f,e⟩:=Gq e
  obtain⟨g1,g2,g3,g4,g5,g6,g7,g8,g9,g10,g11⟩:=Yn f
  have b1:a * c≤4 * 64:=Nat.mul_le_mul (by omega) (by omega)
  by_cases z1:1≤z
  ·by_cases z2:z≤((a * c:Nat):Int)
   ·rw[decide_eq_true z1,decide_eq_true z2] at e
    cases e
    obtain⟨j,hj⟩:∃ j,z.toNat - 1=j:=⟨_,rfl⟩
    obtain rfl:z=((j+1:Nat):Int):=by omega
    rw[hj]
    have e1:((j+1:Nat):Int) - 1=(j:Int):=by omega
    obtain⟨v,h',cc,rfl,hk⟩:∃ v h',Zd K Tryz.prog 44 [.g [.int .i64 (a:Int),.int .i64 (b:Int),.int .i64 (c:Int),.int .i64 (d:Int)],.c (.int .i64 ((j+1:Nat):Int))] h v h'∧v=.tup [.c (.int .i64 ((j / c:Nat):Int)),.c (.int .i64 ((j % c:Nat):Int)),.c (.bool true)]∧∀ m,m<h.next→h'.get m=h.get m:=by
     refine Zd.Ya fits Hh (by kernel_rfl) (by kernel_rfl) (by kernel_rfl) (show Tryz.f44.body=some _ from rfl) rfl ?_
     repeat (first
      | refine Goes.seq ?_
      | refine Goes.block ?_
      | refine Goes.loop ?_
      | refine Goes.skip ?_
      | refine Goes.exit ?_
      | refine Goes.ret ?_
      | refine Goes.Z4 (by simp (maxSteps:=9^6) +decide (disch:=first|omega|(simp only[lens]<;>omega)|decide) only [go_sem,Zc,Za,simprocAttr,f,e1,Lt,Nu,read1,Zn]<;>rfl) ?_
      | refine Goes.ops2 fits Hh (Zf Zb (fun _ _ _ _=>Gv Hh)) (by simp (maxSteps:=9^6) +decide (disch:=first|omega|(simp only[lens]<;>omega)|decide) only [go_sem,Zc,Za,simprocAttr,f,e1,Lt,Nu,read1,Zn]; rfl) ?_
      | refine Goes.drawn2 fits Hh (Zf Zb (fun _ _ _ _=>Gv Hh)) (by kernel_rfl) (by simp (maxSteps:=9^6) +decide (disch:=first|omega|(simp only[lens]<;>omega)|decide) only [go_sem,Zc,Za,simprocAttr,U2,Je,Ju,Ux,Y9,Uv,Jp,Yw,Jt,Uy,Gg,Jy,Yq,Y1,Yu,Yv,J2,Jb,Jf,Yx,Y8,Jz,Bh,O8,Gu,Rl,R8,Ot,Oj,Uh,G7,Oq,Oc,Uw,Jd,Uo,looks,En,Op.operands,Call.operands,kd,Ox,List.filterMap_cons,List.filterMap_nil,List.append_nil,List.nil_append,List.cons_append,Jk,stable,J5,Oa,Uu,waits,Ja,List.all_cons,List.all_nil,List.any_cons,List.any_nil,Region.binds,Bool.or_true,Bool.true_or,Bool.and_true,Bool.true_and,Bool.or_false,Bool.false_or,Bool.and_self,Bool.or_self,Jq,Nat.le_refl,Nat.le_add_right,List.map_cons,Array.toList_append,f,e1,Lt,Nu,read1,Zn]; rfl) ?_)
     exact⟨_,_,(by simp (maxSteps:=9^6) +decide (disch:=first|omega|(simp only[lens]<;>omega)|decide) only [go_sem,Zc,Za,simprocAttr]<;>rfl),rfl,fun m hm=>by (first|(simp (discharger:=omega) only [H.get_put,H.Zh,H.Zk,H.Ze,H.Zg,H.Zj,if_neg]; done)|(simp only[H.get_put,H.Zh,H.Zk,H.Ze,H.Zg,H.Zj]; (repeat' split)<;>first|rfl|(exfalso; omega)|omega))⟩
    exact cc.quiet rfl hk
   ·rw[decide_eq_true z1,decide_eq_false z2] at e
    cases e
    obtain⟨v,h',cc,rfl,hk⟩:∃ v h',Zd K Tryz.prog 44 [.g [.int .i64 (a:Int),.int .i64 (b:Int),.int .i64 (c:Int),.int .i64 (d:Int)],.c (.int .i64 z)] h v h'∧v=.tup [.c (.int .i64 0),.c (.int .i64 0),.c (.bool false)]∧∀ m,m<h.next→h'.get m=h.get m:=by
     refine Zd.Ya fits Hh (by kernel_rfl) (by kernel_rfl) (by kernel_rfl) (show Tryz.f44.body=some _ from rfl) rfl ?_
     repeat (first
      | refine Goes.seq ?_
      | refine Goes.block ?_
      | refine Goes.loop ?_
      | refine Goes.skip ?_
      | refine Goes.exit ?_
      | refine Goes.ret ?_
      | refine Goes.Z4 (by simp (maxSteps:=9^6) +decide (disch:=first|omega|(simp only[lens]<;>omega)|decide) only [go_sem,Zc,Za,simprocAttr,f,read1,Zn]<;>rfl) ?_
      | refine Goes.ops2 fits Hh (Zf Zb (fun _ _ _ _=>Gv Hh)) (by simp (maxSteps:=9^6) +decide (disch:=first|omega|(simp only[lens]<;>omega)|decide) only [go_sem,Zc,Za,simprocAttr,f,read1,Zn]; rfl) ?_
      | refine Goes.drawn2 fits Hh (Zf Zb (fun _ _ _ _=>Gv Hh)) (by kernel_rfl) (by simp (maxSteps:=9^6) +decide (disch:=first|omega|(simp only[lens]<;>omega)|decide) only [go_sem,Zc,Za,simprocAttr,U2,Je,Ju,Ux,Y9,Uv,Jp,Yw,Jt,Uy,Gg,Jy,Yq,Y1,Yu,Yv,J2,Jb,Jf,Yx,Y8,Jz,Bh,O8,Gu,Rl,R8,Ot,Oj,Uh,G7,Oq,Oc,Uw,Jd,Uo,looks,En,Op.operands,Call.operands,kd,Ox,List.filterMap_cons,List.filterMap_nil,List.append_nil,List.nil_append,List.cons_append,Jk,stable,J5,Oa,Uu,waits,Ja,List.all_cons,List.all_nil,List.any_cons,List.any_nil,Region.binds,Bool.or_true,Bool.true_or,Bool.and_true,Bool.true_and,Bool.or_false,Bool.false_or,Bool.and_self,Bool.or_self,Jq,Nat.le_refl,Nat.le_add_right,List.map_cons,Array.toList_append,f,read1,Zn]; rfl) ?_)
     exact⟨_,_,(by simp (maxSteps:=9^6) +decide (disch:=first|omega|(simp only[lens]<;>omega)|decide) only [go_sem,Zc,Za,simprocAttr]<;>rfl),rfl,fun m hm=>by (first|(simp (discharger:=omega) only [H.get_put,H.Zh,H.Zk,H.Ze,H.Zg,H.Zj,if_neg]; done)|(simp only[H.get_put,H.Zh,H.Zk,H.Ze,H.Zg,H.Zj]; (repeat' split)<;>first|rfl|(exfalso; omega)|omega))⟩
    exact cc.quiet rfl hk
  ·rw[decide_eq_false z1] at e
   cases e
   obtain⟨v,h',cc,rfl,hk⟩:∃ v h',Zd K Tryz.prog 44 [.g [.int .i64 (a:Int),.int .i64 (b:Int),.int .i64 (c:Int),.int .i64 (d:Int)],.c (.int .i64 z)] h v h'∧v=.tup [.c (.int .i64 0),.c (.int .i64 0),.c (.bool false)]∧∀ m,m<h.next→h'.get m=h.get m:=by
    refine Zd.Ya fits Hh (by kernel_rfl) (by kernel_rfl) (by kernel_rfl) (show Tryz.f44.body=some _ from rfl) rfl ?_
    repeat (first
     | refine Goes.seq ?_
     | refine Goes.block ?_
     | refine Goes.loop ?_
     | refine Goes.skip ?_
     | refine Goes.exit ?_
     | refine Goes.ret ?_
     | refine Goes.Z4 (by simp (maxSteps:=9^6) +decide (disch:=first|omega|(simp only[lens]<;>omega)|decide) only [go_sem,Zc,Za,simprocAttr,f,read1,Zn]<;>rfl) ?_
     | refine Goes.ops2 fits Hh (Zf Zb (fun _ _ _ _=>Gv Hh)) (by simp (maxSteps:=9^6) +decide (disch:=first|omega|(simp only[lens]<;>omega)|decide) only [go_sem,Zc,Za,simprocAttr,f,read1,Zn]; rfl) ?_
     | refine Goes.drawn2 fits Hh (Zf Zb (fun _ _ _ _=>Gv Hh)) (by kernel_rfl) (by simp (maxSteps:=9^6) +decide (disch:=first|omega|(simp only[lens]<;>omega)|decide) only [go_sem,Zc,Za,simprocAttr,U2,Je,Ju,Ux,Y9,Uv,Jp,Yw,Jt,Uy,Gg,Jy,Yq,Y1,Yu,Yv,J2,Jb,Jf,Yx,Y8,Jz,Bh,O8,Gu,Rl,R8,Ot,Oj,Uh,G7,Oq,Oc,Uw,Jd,Uo,looks,En,Op.operands,Call.operands,kd,Ox,List.filterMap_cons,List.filterMap_nil,List.append_nil,List.nil_append,List.cons_append,Jk,stable,J5,Oa,Uu,waits,Ja,List.all_cons,List.all_nil,List.any_cons,List.any_nil,Region.binds,Bool.or_true,Bool.true_or,Bool.and_true,Bool.true_and,Bool.or_false,Bool.false_or,Bool.and_self,Bool.or_self,Jq,Nat.le_refl,Nat.le_add_right,List.map_cons,Array.toList_append,f,read1,Zn]; rfl) ?_)
    exact⟨_,_,(by simp (maxSteps:=9^6) +decide (disch:=first|omega|(simp only[lens]<;>omega)|decide) only [go_sem,Zc,Za,simprocAttr]<;>rfl),rfl,fun m hm=>by (first|(simp (discharger:=omega) only [H.get_put,H.Zh,H.Zk,H.Ze,H.Zg,H.Zj,if_neg]; done)|(simp only[H.get_put,H.Zh,H.Zk,H.Ze,H.Zg,H.Zj]; (repeat' split)<;>first|rfl|(exfalso; omega)|omega))⟩
   exact cc.quiet rfl hk
 ·cases e
theorem Ff {args:List W} {h h':Go.Ev.H} {v:V} (e:Zrr args h=some (v,h')):Zd K Tryz.prog 27 args h v h':=by
 unfold Zrr at e
 split at e
 ·rename_i z
  obtain⟨a,b,c,d,rfl,rfl,rfl,rfl,f,e⟩:=Gq e
  obtain⟨g1,g2,g3,g4,g5,g6,g7,g8,g9,g10,g11⟩:=Yn f
  have b0:a * c≤4 * 64:=Nat.mul_le_mul (by omega) (by omega)
  rcases bz:decide (1≤z)&&decide (z≤((a * c:Nat):Int)) with _|_
  ·rw[bz] at e
   cases e
   obtain⟨v,h',cc,rfl,hk⟩:∃ v h',Zd K Tryz.prog 27 [.g [.int .i64 (a:Int),.int .i64 (b:Int),.int .i64 (c:Int),.int .i64 (d:Int)],.c (.int .i64 z)] h v h'∧v=.tup [.c (.int .i64 0),.c (.int .i64 0),.c (.bool false)]∧∀ m,m<h.next→h'.get m=h.get m:=by
    refine Zd.Ya fits Hh (by kernel_rfl) (by kernel_rfl) (by kernel_rfl) (show Tryz.f27.body=some _ from rfl) rfl ?_
    repeat (first
     | refine Goes.seq ?_
     | refine Goes.block ?_
     | refine Goes.loop ?_
     | refine Goes.skip ?_
     | refine Goes.exit ?_
     | refine Goes.ret ?_
     | refine Goes.Z4 (by simp (maxSteps:=9^6) +decide (disch:=first|omega|(simp only[lens]<;>omega)|decide) only [go_sem,Zc,Za,simprocAttr,f,bz,read1,Zn]<;>rfl) ?_
     | refine Goes.ops2 fits Hh (Zf (Zf Zb (fun _ _ _ _=>Zny Hh)) (fun _ _ _ _=>X0 Hh)) (by simp (maxSteps:=9^6) +decide (disch:=first|omega|(simp only[lens]<;>omega)|decide) only [go_sem,Zc,Za,simprocAttr,f,bz,read1,Zn]; rfl) ?_)
    exact⟨_,_,(by simp (maxSteps:=9^6) +decide (disch:=first|omega|(simp only[lens]<;>omega)|decide) only [go_sem,Zc,Za,simprocAttr]<;>rfl),rfl,fun m hm=>by (first|(simp (discharger:=omega) only [H.get_put,H.Zh,H.Zk,H.Ze,H.Zg,H.Zj,if_neg]; done)|(simp only[H.get_put,H.Zh,H.Zk,H.Ze,H.Zg,H.Zj]; (repeat' split)<;>first|rfl|(exfalso; omega)|omega))⟩
   exact cc.quiet rfl hk
  rw[bz] at e
  simp only[Bool.and_eq_true,decide_eq_true_eq] at bz
  obtain⟨z1,z2⟩:=bz
  cases e
  obtain⟨j,hj⟩:∃ j,z.toNat - 1=j:=⟨_,rfl⟩
  obtain rfl:z=((j+1:Nat):Int):=by omega
  rw[hj]
  have hk0:j / c<a:=Nat.div_lt_of_lt_mul (by rw[Nat.mul_comm]; omega)
  have hm:j % c<c:=Nat.mod_lt _ (by omega)
  have b1:j / c * b≤a * b:=Nat.mul_le_mul (by omega) (by omega)
  have hz:(((j+1:Nat):Int).toNat - 1)=j:=hj
  obtain⟨k,hk⟩:∃ k,j / c=k:=⟨_,rfl⟩
  obtain⟨r,hr⟩:∃ r,j % c=r:=⟨_,rfl⟩
  rw[hk] at hk0 b1
  rw[hr] at hm
  rw[hk,hr]
  have d1:decide (1≤((j+1:Nat):Int))=true:=decide_eq_true z1
  have d2:decide (((j+1:Nat):Int)≤((a * c:Nat):Int))=true:=decide_eq_true z2
  obtain⟨q,hq⟩:∃ q,k * b=q:=⟨_,rfl⟩
  rw[hq] at b1 ⊢
  obtain⟨v,h',cc,rfl,hk⟩:∃ v h',Zd K Tryz.prog 27 [.g [.int .i64 (a:Int),.int .i64 (b:Int),.int .i64 (c:Int),.int .i64 (d:Int)],.c (.int .i64 ((j+1:Nat):Int))] h v h'∧v=.tup [.c (.int .i64 ((2+d+q+2+r / 4:Nat):Int)),.c (.int .i64 ((r % 4 * 64:Nat):Int)),.c (.bool true)]∧∀ m,m<h.next→h'.get m=h.get m:=by
   refine Zd.Ya fits Hh (by kernel_rfl) (by kernel_rfl) (by kernel_rfl) (show Tryz.f27.body=some _ from rfl) rfl ?_
   repeat (first
    | refine Goes.seq ?_
    | refine Goes.block ?_
    | refine Goes.loop ?_
    | refine Goes.skip ?_
    | refine Goes.exit ?_
    | refine Goes.ret ?_
    | refine Goes.Z4 (by simp (maxSteps:=9^6) +decide (disch:=first|omega|(simp only[lens]<;>omega)|decide) only [go_sem,Zc,Za,simprocAttr,f,d1,d2,hz,hk,hr,hq,Lt,Nu,read1,Zn]<;>rfl) ?_
    | refine Goes.ops2 fits Hh (Zf (Zf Zb (fun _ _ _ _=>Zny Hh)) (fun _ _ _ _=>X0 Hh)) (by simp (maxSteps:=9^6) +decide (disch:=first|omega|(simp only[lens]<;>omega)|decide) only [go_sem,Zc,Za,simprocAttr,f,d1,d2,hz,hk,hr,hq,Lt,Nu,read1,Zn]; rfl) ?_)
   exact⟨_,_,(by simp (maxSteps:=9^6) +decide (disch:=first|omega|(simp only[lens]<;>omega)|decide) only [go_sem,Zc,Za,simprocAttr]<;>rfl),rfl,fun m hm=>by (first|(simp (discharger:=omega) only [H.get_put,H.Zh,H.Zk,H.Ze,H.Zg,H.Zj,if_neg]; done)|(simp only[H.get_put,H.Zh,H.Zk,H.Ze,H.Zg,H.Zj]; (repeat' split)<;>first|rfl|(exfalso; omega)|omega))⟩
  exact cc.quiet rfl hk
 ·cases e
end
end Go.Proofs.YtmdibcklpmeleaaGreatDoor
set_option maxRecDepth 100000
set_option maxHeartbeats 4000000
namespace Go.Proofs.YtmdibcklpmeleaaGreatDoor
open Go.Ev
theorem rs28:Tryz.f28.results.toList=[.cell 2 23]:=rfl
theorem rs81:Tryz.f81.results.toList=[.tmp 2]:=rfl
theorem rs82:Tryz.f82.results.toList=[.tmp 2]:=rfl
theorem rs26:Tryz.f26.results.toList=[.tmp 2]:=rfl
theorem rs31:Tryz.f31.results.toList=[.tmp 2]:=rfl
theorem rs38:Tryz.f38.results.toList=[.tmp 4]:=rfl
theorem rs37:Tryz.f37.results.toList=[.tmp 4]:=rfl
attribute [go_sem] rs28 rs81 rs82 rs26 rs31 rs38 rs37
noncomputable def Z47:Kn1:=fun args h=>match args with
 | [.c (.ptr s 0)]=>(Nr h s).bind fun S=>(Qf h S.gd).bind fun G=>some (.w (.g (Yf G.gr G.sz G.ino G.jr)),h)
 | _=>none
noncomputable def Zve:Kn1:=fun args h=>match args with
 | [.c (.ptr s 0)]=>(Nr h s).bind fun _=>some (.w (.c (.bool false)),h)
 | _=>none
noncomputable def Z7i:Kn1:=fun args h=>match args with
 | [.c (.ptr s 0)]=>(Nr h s).bind fun S=>(Gw h S.tx).bind fun X=>some (.w (.c (.bool X.op)),h)
 | _=>none
noncomputable def Zyy:Kn1:=fun args h=>match args with
 | [.c (.ptr s 0)]=>(Nr h s).bind fun S=>(Qf h S.gd).bind fun _=>some (.w (.c (.int .i64 0)),h)
 | _=>none
noncomputable def Zy7:Kn1:=fun args h=>match args with
 | [.c (.ptr s 0)]=>(Nr h s).bind fun S=>(Qf h S.gd).bind fun _=>(Gw h S.tx).bind fun X=>Y2 X.op (some (.w (.c (.int .i64 0)),h))
 | _=>none
noncomputable def Z6n:Kn1:=fun args h=>match args with
 | [.g [.int .i64 a,.int .i64 b,.int .i64 c,.int .i64 d],.c (.int .i64 k)]=>Zbc a b c d fun a b _ d=>(J4 k).bind fun k=>Y2 (decide (k<a)) (some (.w (.c (.int .i64 ((2+d+k * b+1:Nat):Int))),h))
 | _=>none
noncomputable def Ybl:Kn1:=fun args h=>match args with
 | [.g [a,b,c,d],.c z]=>some (.w (.c (.fn 87 [] [some (h.next,0),some (h.next+1,0)])),(h.new (.row 4 [[a,b,c,d]] false)).new (.row 1 [[z]] false))
 | _=>none
attribute [go_sem] Z47 Zve Z7i Zyy Zy7 Z6n Ybl
section
variable (Hh:Hearts K Tryz.prog)
include Hh
theorem Rz {args:List W} {h h':Go.Ev.H} {v:V} (e:Z47 args h=some (v,h')):Zd K Tryz.prog 28 args h v h':=by
 unfold Z47 at e
 split at e
 ·rename_i s
  obtain⟨S,hs,e⟩:=Zo e
  have hs:=Us hs
  obtain⟨G,hg,e⟩:=Zo e
  obtain⟨hg,fb⟩:=Bg hg
  cases e
  refine Zd.tidy ⟨Tryz.f28,Tryz.func28,by kernel_rfl,by decide⟩ fun tidy=>?_
  have l1:=tidy _ _ hs
  have l2:=tidy _ _ hg
  have gl4:Zc 9 [gdL G] 0 4=some (Yf G.gr G.sz G.ino G.jr):=rfl
  have gl5:∀ x:List C,x.length≤4∧4≤x.length→Zx 4 [x] 0 (Yf G.gr G.sz G.ino G.jr)=some [Yf G.gr G.sz G.ino G.jr]:=fun x hx=>Su ⟨Nat.le_refl 4,Nat.le_refl 4,hx.1,hx.2,by omega⟩
  have gl6:Zc 4 [Yf G.gr G.sz G.ino G.jr] 0 4=some (Yf G.gr G.sz G.ino G.jr):=rfl
  obtain⟨v,h',c,rfl,hk⟩:∃ v h',Zd K Tryz.prog 28 [.c (.ptr s 0)] h v h'∧v=.w (.g (Yf G.gr G.sz G.ino G.jr))∧∀ m,m<h.next→h'.get m=h.get m:=by
   refine Zd.Ya fits Hh (by kernel_rfl) (by kernel_rfl) (by kernel_rfl) (show Tryz.f28.body=some _ from rfl) rfl ?_
   repeat (first
    | refine Goes.seq ?_
    | refine Goes.block ?_
    | refine Goes.loop ?_
    | refine Goes.skip ?_
    | refine Goes.exit ?_
    | refine Goes.ret ?_
    | refine Goes.Z4 (by simp (maxSteps:=9^6) +decide (disch:=first|omega|(simp only[lens]<;>omega)|decide) only [go_sem,Za,simprocAttr,hs,hg,gl4,gl5,gl6,read1]<;>rfl) ?_
    | refine Goes.ops2 fits Hh (Zf Zb (fun _ _ _ _=>Br Hh)) (by simp (maxSteps:=9^6) +decide (disch:=first|omega|(simp only[lens]<;>omega)|decide) only [go_sem,Za,simprocAttr,hs,hg,gl4,gl5,gl6,read1]; rfl) ?_)
   exact⟨_,_,(by simp (maxSteps:=9^6) +decide (disch:=first|omega|(simp only[lens]<;>omega)|decide) only [go_sem,Za,simprocAttr,gl6]<;>rfl),rfl,fun m hm=>by (first|(simp (discharger:=omega) only [H.get_put,H.Zh,H.Zk,H.Ze,H.Zg,H.Zj,if_neg]; done)|(simp only[H.get_put,H.Zh,H.Zk,H.Ze,H.Zg,H.Zj]; (repeat' split)<;>first|rfl|(exfalso; omega)|omega))⟩
  exact c.quiet rfl hk
 ·cases e
theorem Z3l {args:List W} {h h':Go.Ev.H} {v:V} (e:Zve args h=some (v,h')):Zd K Tryz.prog 81 args h v h':=by
 unfold Zve at e
 split at e
 ·rename_i s
  obtain⟨S,hs,e⟩:=Zo e
  have hs:=Us hs
  cases e
  refine Zd.goes fits Hh (by kernel_rfl) (by kernel_rfl) (by kernel_rfl) (show Tryz.f81.body=some _ from rfl) rfl ?_
  repeat (first
   | refine Goes.seq ?_
   | refine Goes.block ?_
   | refine Goes.loop ?_
   | refine Goes.skip ?_
   | refine Goes.exit ?_
   | refine Goes.ret ?_
   | refine Goes.Z4 (by simp (maxSteps:=9^6) +decide (disch:=first|omega|(simp only[lens]<;>omega)|decide) only [go_sem,Zc,Za,simprocAttr,hs,read1]<;>rfl) ?_
   | refine Goes.ops2 fits Hh (Zf Zb (fun _ _ _ _=>Br Hh)) (by simp (maxSteps:=9^6) +decide (disch:=first|omega|(simp only[lens]<;>omega)|decide) only [go_sem,Zc,Za,simprocAttr,hs,read1]; rfl) ?_)
  simp (maxSteps:=9^6) +decide (disch:=first|omega|(simp only[lens]<;>omega)|decide) only [go_sem,Zc,Za,simprocAttr]<;>rfl
 ·cases e
theorem Z6t {args:List W} {h h':Go.Ev.H} {v:V} (e:Z7i args h=some (v,h')):Zd K Tryz.prog 82 args h v h':=by
 unfold Z7i at e
 split at e
 ·rename_i s
  obtain⟨S,hs,e⟩:=Zo e
  have hs:=Us hs
  obtain⟨X,ht,e⟩:=Zo e
  have ht:=Y5 ht
  cases e
  refine Zd.goes fits Hh (by kernel_rfl) (by kernel_rfl) (by kernel_rfl) (show Tryz.f82.body=some _ from rfl) rfl ?_
  repeat (first
   | refine Goes.seq ?_
   | refine Goes.block ?_
   | refine Goes.loop ?_
   | refine Goes.skip ?_
   | refine Goes.exit ?_
   | refine Goes.ret ?_
   | refine Goes.Z4 (by simp (maxSteps:=9^6) +decide (disch:=first|omega|(simp only[lens]<;>omega)|decide) only [go_sem,Zc,Za,simprocAttr,hs,ht,read1]<;>rfl) ?_
   | refine Goes.ops2 fits Hh (Zf (Zf Zb (fun _ _ _ _=>Br Hh)) (fun _ _ _ _=>Zgr Hh)) (by simp (maxSteps:=9^6) +decide (disch:=first|omega|(simp only[lens]<;>omega)|decide) only [go_sem,Zc,Za,simprocAttr,hs,ht,read1]; rfl) ?_)
  simp (maxSteps:=9^6) +decide (disch:=first|omega|(simp only[lens]<;>omega)|decide) only [go_sem,Zc,Za,simprocAttr]<;>rfl
 ·cases e
theorem Zgn {args:List W} {h h':Go.Ev.H} {v:V} (e:Zyy args h=some (v,h')):Zd K Tryz.prog 26 args h v h':=by
 unfold Zyy at e
 split at e
 ·rename_i s
  obtain⟨S,hs,e⟩:=Zo e
  have hs:=Us hs
  obtain⟨G,hg,e⟩:=Zo e
  obtain⟨hg,fb⟩:=Bg hg
  cases e
  refine Zd.goes fits Hh (by kernel_rfl) (by kernel_rfl) (by kernel_rfl) (show Tryz.f26.body=some _ from rfl) rfl ?_
  repeat (first
   | refine Goes.seq ?_
   | refine Goes.block ?_
   | refine Goes.loop ?_
   | refine Goes.skip ?_
   | refine Goes.exit ?_
   | refine Goes.ret ?_
   | refine Goes.Z4 (by simp (maxSteps:=9^6) +decide (disch:=first|omega|(simp only[lens]<;>omega)|decide) only [go_sem,Zc,Za,simprocAttr,hs,hg,gdL,fb,Yf]<;>rfl) ?_
   | refine Goes.ops2 fits Hh (Zf (Zf Zb (fun _ _ _ _=>Rz Hh)) (fun _ _ _ _=>O4 Hh)) (by simp (maxSteps:=9^6) +decide (disch:=first|omega|(simp only[lens]<;>omega)|decide) only [go_sem,Zc,Za,simprocAttr,hs,hg,gdL,fb,Yf]; rfl) ?_)
  simp (maxSteps:=9^6) +decide (disch:=first|omega|(simp only[lens]<;>omega)|decide) only [go_sem,Zc,Za,simprocAttr]<;>rfl
 ·cases e
theorem Zfs {args:List W} {h h':Go.Ev.H} {v:V} (e:Zy7 args h=some (v,h')):Zd K Tryz.prog 31 args h v h':=by
 unfold Zy7 at e
 split at e
 ·rename_i s
  obtain⟨S,hs,e⟩:=Zo e
  have hs:=Us hs
  obtain⟨G,hg,e⟩:=Zo e
  obtain⟨hg,fb⟩:=Bg hg
  obtain⟨X,ht,e⟩:=Zo e
  have ht:=Y5 ht
  obtain⟨bo,e⟩:=Zu.1 e
  cases e
  refine Zd.goes fits Hh (by kernel_rfl) (by kernel_rfl) (by kernel_rfl) (show Tryz.f31.body=some _ from rfl) rfl ?_
  repeat (first
   | refine Goes.seq ?_
   | refine Goes.block ?_
   | refine Goes.loop ?_
   | refine Goes.skip ?_
   | refine Goes.exit ?_
   | refine Goes.ret ?_
   | refine Goes.Z4 (by simp (maxSteps:=9^6) +decide (disch:=first|omega|(simp only[lens]<;>omega)|decide) only [go_sem,Zc,Za,simprocAttr,hs,ht,hg,gdL,fb,bo]<;>rfl) ?_
   | refine Goes.ops2 fits Hh (Zf (Zf (Zf Zb (fun _ _ _ _=>Zgn Hh)) (fun _ _ _ _=>Z3l Hh)) (fun _ _ _ _=>Z6t Hh)) (by simp (maxSteps:=9^6) +decide (disch:=first|omega|(simp only[lens]<;>omega)|decide) only [go_sem,Zc,Za,simprocAttr,hs,ht,hg,gdL,fb,bo]; rfl) ?_)
  simp (maxSteps:=9^6) +decide (disch:=first|omega|(simp only[lens]<;>omega)|decide) only [go_sem,Zc,Za,simprocAttr]<;>rfl
 ·cases e
end
end Go.Proofs.YtmdibcklpmeleaaGreatDoor
