/- geo of a geometry that may be, as the walks ask it: data, groups' starts, inodes. -/
import Derived.Test.YtngejdlimkgjfaaGreatDoorNew2
set_option linter.unusedSimpArgs false
set_option linter.unusedVariables false
set_option linter.unusedSectionVars false
set_option maxRecDepth 100000
set_option maxHeartbeats 4000000
namespace Go.Proofs.YtngejdlimkgjfaaGreatDoor
open Go.Ev
noncomputable def Q5 (a b c d:Int) (k:Nat→Nat→Nat→Nat→Option (V × Go.Ev.H)):Option (V × Go.Ev.H):=(Ul a).bind fun a=>(Ul b).bind fun b=>(Ul c).bind fun c=>(Ul d).bind fun d=>Y9 (Jm a b c d) (k a b c d)
theorem Ov {a b c d:Int} {k:Nat→Nat→Nat→Nat→Option (V × Go.Ev.H)} {r:V × Go.Ev.H} (e:Q5 a b c d k=some r):∃ a' b' c' d':Nat,a=a'∧b=b'∧c=c'∧d=d'∧Jm a' b' c' d'=true∧k a' b' c' d'=some r:=by
 obtain⟨a',ha,e⟩:=Zo e
 obtain⟨b',hb,e⟩:=Zo e
 obtain⟨c',hc,e⟩:=Zo e
 obtain⟨d',hd,e⟩:=Zo e
 obtain⟨f,e⟩:=Zv.1 e
 exact⟨a',b',c',d',Z6 ha,Z6 hb,Z6 hc,Z6 hd,f,e⟩
noncomputable def Zpw:Kn1:=fun args h=>match args with
 | [.g [.int .i64 a,.int .i64 b,.int .i64 c,.int .i64 d]]=>Q5 a b c d fun _ b c _=>some (.w (.c (.int .i64 ((b - 2 - c / 4:Nat):Int))),h)
 | _=>none
noncomputable def Zmf:Kn1:=fun args h=>match args with
 | [.g [.int .i64 a,.int .i64 b,.int .i64 c,.int .i64 d],.c (.int .i64 k)]=>Q5 a b c d fun a b _ d=>(Ul k).bind fun k=>Y9 (decide (k<a)) (some (.tup [.c (.int .i64 ((2+d+k * b:Nat):Int)),.c (.bool true)],h))
 | _=>none
noncomputable def Zh8:Kn1:=fun args h=>match args with
 | [.g [.int .i64 a,.int .i64 b,.int .i64 c,.int .i64 d]]=>Q5 a b c d fun a _ c _=>some (.w (.c (.int .i64 ((a * c:Nat):Int))),h)
 | _=>none
noncomputable def Zh5:Kn1:=fun args h=>match args with
 | [.g [.int .i64 a,.int .i64 b,.int .i64 c,.int .i64 d],.c (.int .i64 k),.c (.int .i64 i)]=>Q5 a b c d fun a _ c _=>(Ul k).bind fun k=>(Ul i).bind fun i=>Y9 (decide (k<a)&&decide (i<c)) (some (.w (.c (.int .i64 ((k * c+i+1:Nat):Int))),h))
 | _=>none
noncomputable def Zpo:Kn1:=fun args h=>match args with
 | [.g [.int .i64 a,.int .i64 b,.int .i64 c,.int .i64 d],.c (.int .i64 z)]=>Q5 a b c d fun a _ c _=>bif decide (1≤z)&&decide (z≤((a * c:Nat):Int)) then some (.tup [.c (.int .i64 (((z.toNat - 1) / c:Nat):Int)),.c (.int .i64 (((z.toNat - 1) % c:Nat):Int)),.c (.bool true)],h) else some (.tup [.c (.int .i64 0),.c (.int .i64 0),.c (.bool false)],h)
 | _=>none
noncomputable def Zl9:Kn1:=fun args h=>match args with
 | [.g [.int .i64 a,.int .i64 b,.int .i64 c,.int .i64 d],.c (.int .i64 z)]=>Q5 a b c d fun a b c d=>bif decide (1≤z)&&decide (z≤((a * c:Nat):Int)) then some (.tup [.c (.int .i64 ((2+d+(z.toNat - 1) / c * b+2+(z.toNat - 1) % c / 4:Nat):Int)),.c (.int .i64 (((z.toNat - 1) % c % 4 * 64:Nat):Int)),.c (.bool true)],h) else some (.tup [.c (.int .i64 0),.c (.int .i64 0),.c (.bool false)],h)
 | _=>none
attribute [go_sem] Q5 Zpw Zmf Zh8 Zh5 Zpo Zl9
section
variable (Hh:Hearts K Tryz.prog)
include Hh
theorem Ld {args:List W} {h h':Go.Ev.H} {v:V} (e:Zpw args h=some (v,h')):Ze K Tryz.prog 104 args h v h':=by
 unfold Zpw at e
 split at e
 ·obtain⟨a,b,c,d,rfl,rfl,rfl,rfl,f,e⟩:=Ov e
  obtain⟨g1,g2,g3,g4,g5,g6,g7,g8,g9,g10,g11⟩:=Z0 f
  cases e
  have q1:M0 .i64 (c:Int) 4=some (.int .i64 ((c / 4:Nat):Int)):=L6 (b:=4) (by omega) (by omega)
  have e2:(b:Int) - 2=((b - 2:Nat):Int):=by omega
  have e3:((b - 2:Nat):Int) - ((c / 4:Nat):Int)=((b - 2 - c / 4:Nat):Int):=by omega
  obtain⟨v,h',cc,rfl,hk⟩:∃ v h',Ze K Tryz.prog 104 [.g [.int .i64 (a:Int),.int .i64 (b:Int),.int .i64 (c:Int),.int .i64 (d:Int)]] h v h'∧v=.w (.c (.int .i64 ((b - 2 - c / 4:Nat):Int)))∧∀ m,m<h.next→h'.get m=h.get m:=by
   refine Ze.Z8 fits Hh (by kernel_rfl) (by kernel_rfl) (by kernel_rfl) (show Tryz.f104.body=some _ from rfl) rfl ?_
   repeat (first|apply Goes.seq|apply Goes.block|apply Goes.loop|apply Goes.skip|apply Goes.exit|apply Goes.ret|((first|apply Goes.Zr|apply Goes.ops2 fits Hh (Zh Zc (fun _ _ _ _=>U9 Hh))); · simp (maxSteps:=9^6) +decide (disch:=first|omega|(simp only[lens]<;>omega)|decide) only [go_sem,Zf,Za,simprocAttr,f,q1,e2,e3,read1,Zw]<;>rfl))
   exact⟨_,_,(by simp (maxSteps:=9^6) +decide (disch:=first|omega|(simp only[lens]<;>omega)|decide) only [go_sem,Zf,Za,simprocAttr]<;>rfl),rfl,fun m hm=>by (first|(simp (discharger:=omega) only [H.get_put,H.Zi,H.Zm,H.Zd,H.Zg,H.Zj,if_neg]; done)|(simp only[H.get_put,H.Zi,H.Zm,H.Zd,H.Zg,H.Zj]; (repeat' split)<;>first|rfl|(exfalso; omega)|omega))⟩
  exact cc.quiet rfl hk
 ·cases e
theorem Nn {args:List W} {h h':Go.Ev.H} {v:V} (e:Zmf args h=some (v,h')):Ze K Tryz.prog 58 args h v h':=by
 unfold Zmf at e
 split at e
 ·obtain⟨a,b,c,d,rfl,rfl,rfl,rfl,f,e⟩:=Ov e
  obtain⟨g1,g2,g3,g4,g5,g6,g7,g8,g9,g10,g11⟩:=Z0 f
  obtain⟨k,hk,e⟩:=Zo e
  obtain⟨bk,e⟩:=Zv.1 e
  have kl:=of_decide_eq_true bk
  cases e
  rw[Z6 hk]
  have b1:k * b≤a * b:=Nat.mul_le_mul (by omega) (by omega)
  have gi:(k:Int) * (b:Int)=((k * b:Nat):Int):=rfl
  obtain⟨v,h',cc,rfl,hk⟩:∃ v h',Ze K Tryz.prog 58 [.g [.int .i64 (a:Int),.int .i64 (b:Int),.int .i64 (c:Int),.int .i64 (d:Int)],.c (.int .i64 (k:Int))] h v h'∧v=.tup [.c (.int .i64 ((2+d+k * b:Nat):Int)),.c (.bool true)]∧∀ m,m<h.next→h'.get m=h.get m:=by
   refine Ze.Z8 fits Hh (by kernel_rfl) (by kernel_rfl) (by kernel_rfl) (show Tryz.f58.body=some _ from rfl) rfl ?_
   repeat (first|apply Goes.seq|apply Goes.block|apply Goes.loop|apply Goes.skip|apply Goes.exit|apply Goes.ret|((first|apply Goes.Zr|apply Goes.ops2 fits Hh (Zh Zc (fun _ _ _ _=>U9 Hh))); · simp (maxSteps:=9^6) +decide (disch:=first|omega|(simp only[lens]<;>omega)|decide) only [go_sem,Zf,Za,simprocAttr,f,gi,read1,Zw]<;>rfl))
   exact⟨_,_,(by simp (maxSteps:=9^6) +decide (disch:=first|omega|(simp only[lens]<;>omega)|decide) only [go_sem,Zf,Za,simprocAttr]<;>rfl),rfl,fun m hm=>by (first|(simp (discharger:=omega) only [H.get_put,H.Zi,H.Zm,H.Zd,H.Zg,H.Zj,if_neg]; done)|(simp only[H.get_put,H.Zi,H.Zm,H.Zd,H.Zg,H.Zj]; (repeat' split)<;>first|rfl|(exfalso; omega)|omega))⟩
  exact cc.quiet rfl hk
 ·cases e
theorem Bl {args:List W} {h h':Go.Ev.H} {v:V} (e:Zh8 args h=some (v,h')):Ze K Tryz.prog 89 args h v h':=by
 unfold Zh8 at e
 split at e
 ·obtain⟨a,b,c,d,rfl,rfl,rfl,rfl,f,e⟩:=Ov e
  obtain⟨g1,g2,g3,g4,g5,g6,g7,g8,g9,g10,g11⟩:=Z0 f
  cases e
  have b1:a * c≤4 * 64:=Nat.mul_le_mul (by omega) (by omega)
  have gi:(a:Int) * (c:Int)=((a * c:Nat):Int):=rfl
  obtain⟨v,h',cc,rfl,hk⟩:∃ v h',Ze K Tryz.prog 89 [.g [.int .i64 (a:Int),.int .i64 (b:Int),.int .i64 (c:Int),.int .i64 (d:Int)]] h v h'∧v=.w (.c (.int .i64 ((a * c:Nat):Int)))∧∀ m,m<h.next→h'.get m=h.get m:=by
   refine Ze.Z8 fits Hh (by kernel_rfl) (by kernel_rfl) (by kernel_rfl) (show Tryz.f89.body=some _ from rfl) rfl ?_
   repeat (first|apply Goes.seq|apply Goes.block|apply Goes.loop|apply Goes.skip|apply Goes.exit|apply Goes.ret|((first|apply Goes.Zr|apply Goes.ops2 fits Hh (Zh Zc (fun _ _ _ _=>U9 Hh))); · simp (maxSteps:=9^6) +decide (disch:=first|omega|(simp only[lens]<;>omega)|decide) only [go_sem,Zf,Za,simprocAttr,f,gi,read1,Zw]<;>rfl))
   exact⟨_,_,(by simp (maxSteps:=9^6) +decide (disch:=first|omega|(simp only[lens]<;>omega)|decide) only [go_sem,Zf,Za,simprocAttr]<;>rfl),rfl,fun m hm=>by (first|(simp (discharger:=omega) only [H.get_put,H.Zi,H.Zm,H.Zd,H.Zg,H.Zj,if_neg]; done)|(simp only[H.get_put,H.Zi,H.Zm,H.Zd,H.Zg,H.Zj]; (repeat' split)<;>first|rfl|(exfalso; omega)|omega))⟩
  exact cc.quiet rfl hk
 ·cases e
theorem Zpc {args:List W} {h h':Go.Ev.H} {v:V} (e:Zh5 args h=some (v,h')):Ze K Tryz.prog 37 args h v h':=by
 unfold Zh5 at e
 split at e
 ·obtain⟨a,b,c,d,rfl,rfl,rfl,rfl,f,e⟩:=Ov e
  obtain⟨g1,g2,g3,g4,g5,g6,g7,g8,g9,g10,g11⟩:=Z0 f
  obtain⟨k,hk,e⟩:=Zo e
  obtain⟨i,hi,e⟩:=Zo e
  obtain⟨bk,e⟩:=Zv.1 e
  simp only[Bool.and_eq_true,decide_eq_true_eq] at bk
  obtain⟨kl,il⟩:=bk
  cases e
  rw[Z6 hk,Z6 hi]
  have b1:k * c≤4 * 64:=Nat.mul_le_mul (by omega) (by omega)
  have gi:(k:Int) * (c:Int)=((k * c:Nat):Int):=rfl
  obtain⟨v,h',cc,rfl,hk⟩:∃ v h',Ze K Tryz.prog 37 [.g [.int .i64 (a:Int),.int .i64 (b:Int),.int .i64 (c:Int),.int .i64 (d:Int)],.c (.int .i64 (k:Int)),.c (.int .i64 (i:Int))] h v h'∧v=.w (.c (.int .i64 ((k * c+i+1:Nat):Int)))∧∀ m,m<h.next→h'.get m=h.get m:=by
   refine Ze.Z8 fits Hh (by kernel_rfl) (by kernel_rfl) (by kernel_rfl) (show Tryz.f37.body=some _ from rfl) rfl ?_
   repeat (first|apply Goes.seq|apply Goes.block|apply Goes.loop|apply Goes.skip|apply Goes.exit|apply Goes.ret|((first|apply Goes.Zr|apply Goes.ops2 fits Hh (Zh Zc (fun _ _ _ _=>U9 Hh))); · simp (maxSteps:=9^6) +decide (disch:=first|omega|(simp only[lens]<;>omega)|decide) only [go_sem,Zf,Za,simprocAttr,f,gi,read1,Zw]<;>rfl))
   exact⟨_,_,(by simp (maxSteps:=9^6) +decide (disch:=first|omega|(simp only[lens]<;>omega)|decide) only [go_sem,Zf,Za,simprocAttr]<;>rfl),rfl,fun m hm=>by (first|(simp (discharger:=omega) only [H.get_put,H.Zi,H.Zm,H.Zd,H.Zg,H.Zj,if_neg]; done)|(simp only[H.get_put,H.Zi,H.Zm,H.Zd,H.Zg,H.Zj]; (repeat' split)<;>first|rfl|(exfalso; omega)|omega))⟩
  exact cc.quiet rfl hk
 ·cases e
theorem Li {args:List W} {h h':Go.Ev.H} {v:V} (e:Zpo args h=some (v,h')):Ze K Tryz.prog 44 args h v h':=by
 unfold Zpo at e
 split at e
 ·rename_i z
  obtain⟨a,b,c,d,rfl,rfl,rfl,rfl,f,e⟩:=Ov e
  obtain⟨g1,g2,g3,g4,g5,g6,g7,g8,g9,g10,g11⟩:=Z0 f
  have b1:a * c≤4 * 64:=Nat.mul_le_mul (by omega) (by omega)
  by_cases z1:1≤z
  ·by_cases z2:z≤((a * c:Nat):Int)
   ·rw[decide_eq_true z1,decide_eq_true z2] at e
    cases e
    obtain⟨j,hj⟩:∃ j,z.toNat - 1=j:=⟨_,rfl⟩
    obtain rfl:z=((j+1:Nat):Int):=by omega
    rw[hj]
    have e1:((j+1:Nat):Int) - 1=(j:Int):=by omega
    obtain⟨v,h',cc,rfl,hk⟩:∃ v h',Ze K Tryz.prog 44 [.g [.int .i64 (a:Int),.int .i64 (b:Int),.int .i64 (c:Int),.int .i64 (d:Int)],.c (.int .i64 ((j+1:Nat):Int))] h v h'∧v=.tup [.c (.int .i64 ((j / c:Nat):Int)),.c (.int .i64 ((j % c:Nat):Int)),.c (.bool true)]∧∀ m,m<h.next→h'.get m=h.get m:=by
     refine Ze.Z8 fits Hh (by kernel_rfl) (by kernel_rfl) (by kernel_rfl) (show Tryz.f44.body=some _ from rfl) rfl ?_
     repeat (first|apply Goes.seq|apply Goes.block|apply Goes.loop|apply Goes.skip|apply Goes.exit|apply Goes.ret|((first|apply Goes.Zr|apply Goes.ops2 fits Hh (Zh Zc (fun _ _ _ _=>Bl Hh))); · simp (maxSteps:=9^6) +decide (disch:=first|omega|(simp only[lens]<;>omega)|decide) only [go_sem,Zf,Za,simprocAttr,f,e1,L6,Nf,read1,Zw]<;>rfl)|(apply Goes.drawn2 fits Hh (Zh Zc (fun _ _ _ _=>Bl Hh)) (by kernel_rfl); · simp (maxSteps:=9^6) +decide (disch:=first|omega|(simp only[lens]<;>omega)|decide) only [go_sem,Zf,Za,simprocAttr,Js,Y2,Jd,Jo,Yv,Jp,Jf,Ye,Ja,Jr,Ux,Jg,Ya,Ym,Yh,Yg,Je,Yt,Y0,Yd,Yu,Jb,Oy,U8,Oj,Ee,Ep,Ue,Ug,Jn,Om,Uj,Ur,Jq,Y1,Uo,looks,O5,Op.operands,Call.operands,kd,Ud,List.filterMap_cons,List.filterMap_nil,List.append_nil,List.nil_append,List.cons_append,Ji,stable,Jl,J4,Jt,waits,Yr,List.all_cons,List.all_nil,List.any_cons,List.any_nil,Region.binds,Bool.or_true,Bool.true_or,Bool.and_true,Bool.true_and,Bool.or_false,Bool.false_or,Bool.and_self,Bool.or_self,Jc,Nat.le_refl,Nat.le_add_right,List.map_cons,Array.toList_append,f,e1,L6,Nf,read1,Zw]<;>rfl))
     exact⟨_,_,(by simp (maxSteps:=9^6) +decide (disch:=first|omega|(simp only[lens]<;>omega)|decide) only [go_sem,Zf,Za,simprocAttr]<;>rfl),rfl,fun m hm=>by (first|(simp (discharger:=omega) only [H.get_put,H.Zi,H.Zm,H.Zd,H.Zg,H.Zj,if_neg]; done)|(simp only[H.get_put,H.Zi,H.Zm,H.Zd,H.Zg,H.Zj]; (repeat' split)<;>first|rfl|(exfalso; omega)|omega))⟩
    exact cc.quiet rfl hk
   ·rw[decide_eq_true z1,decide_eq_false z2] at e
    cases e
    obtain⟨v,h',cc,rfl,hk⟩:∃ v h',Ze K Tryz.prog 44 [.g [.int .i64 (a:Int),.int .i64 (b:Int),.int .i64 (c:Int),.int .i64 (d:Int)],.c (.int .i64 z)] h v h'∧v=.tup [.c (.int .i64 0),.c (.int .i64 0),.c (.bool false)]∧∀ m,m<h.next→h'.get m=h.get m:=by
     refine Ze.Z8 fits Hh (by kernel_rfl) (by kernel_rfl) (by kernel_rfl) (show Tryz.f44.body=some _ from rfl) rfl ?_
     repeat (first|apply Goes.seq|apply Goes.block|apply Goes.loop|apply Goes.skip|apply Goes.exit|apply Goes.ret|((first|apply Goes.Zr|apply Goes.ops2 fits Hh (Zh Zc (fun _ _ _ _=>Bl Hh))); · simp (maxSteps:=9^6) +decide (disch:=first|omega|(simp only[lens]<;>omega)|decide) only [go_sem,Zf,Za,simprocAttr,f,read1,Zw]<;>rfl)|(apply Goes.drawn2 fits Hh (Zh Zc (fun _ _ _ _=>Bl Hh)) (by kernel_rfl); · simp (maxSteps:=9^6) +decide (disch:=first|omega|(simp only[lens]<;>omega)|decide) only [go_sem,Zf,Za,simprocAttr,Js,Y2,Jd,Jo,Yv,Jp,Jf,Ye,Ja,Jr,Ux,Jg,Ya,Ym,Yh,Yg,Je,Yt,Y0,Yd,Yu,Jb,Oy,U8,Oj,Ee,Ep,Ue,Ug,Jn,Om,Uj,Ur,Jq,Y1,Uo,looks,O5,Op.operands,Call.operands,kd,Ud,List.filterMap_cons,List.filterMap_nil,List.append_nil,List.nil_append,List.cons_append,Ji,stable,Jl,J4,Jt,waits,Yr,List.all_cons,List.all_nil,List.any_cons,List.any_nil,Region.binds,Bool.or_true,Bool.true_or,Bool.and_true,Bool.true_and,Bool.or_false,Bool.false_or,Bool.and_self,Bool.or_self,Jc,Nat.le_refl,Nat.le_add_right,List.map_cons,Array.toList_append,f,read1,Zw]<;>rfl))
     exact⟨_,_,(by simp (maxSteps:=9^6) +decide (disch:=first|omega|(simp only[lens]<;>omega)|decide) only [go_sem,Zf,Za,simprocAttr]<;>rfl),rfl,fun m hm=>by (first|(simp (discharger:=omega) only [H.get_put,H.Zi,H.Zm,H.Zd,H.Zg,H.Zj,if_neg]; done)|(simp only[H.get_put,H.Zi,H.Zm,H.Zd,H.Zg,H.Zj]; (repeat' split)<;>first|rfl|(exfalso; omega)|omega))⟩
    exact cc.quiet rfl hk
  ·rw[decide_eq_false z1] at e
   cases e
   obtain⟨v,h',cc,rfl,hk⟩:∃ v h',Ze K Tryz.prog 44 [.g [.int .i64 (a:Int),.int .i64 (b:Int),.int .i64 (c:Int),.int .i64 (d:Int)],.c (.int .i64 z)] h v h'∧v=.tup [.c (.int .i64 0),.c (.int .i64 0),.c (.bool false)]∧∀ m,m<h.next→h'.get m=h.get m:=by
    refine Ze.Z8 fits Hh (by kernel_rfl) (by kernel_rfl) (by kernel_rfl) (show Tryz.f44.body=some _ from rfl) rfl ?_
    repeat (first|apply Goes.seq|apply Goes.block|apply Goes.loop|apply Goes.skip|apply Goes.exit|apply Goes.ret|((first|apply Goes.Zr|apply Goes.ops2 fits Hh (Zh Zc (fun _ _ _ _=>Bl Hh))); · simp (maxSteps:=9^6) +decide (disch:=first|omega|(simp only[lens]<;>omega)|decide) only [go_sem,Zf,Za,simprocAttr,f,read1,Zw]<;>rfl)|(apply Goes.drawn2 fits Hh (Zh Zc (fun _ _ _ _=>Bl Hh)) (by kernel_rfl); · simp (maxSteps:=9^6) +decide (disch:=first|omega|(simp only[lens]<;>omega)|decide) only [go_sem,Zf,Za,simprocAttr,Js,Y2,Jd,Jo,Yv,Jp,Jf,Ye,Ja,Jr,Ux,Jg,Ya,Ym,Yh,Yg,Je,Yt,Y0,Yd,Yu,Jb,Oy,U8,Oj,Ee,Ep,Ue,Ug,Jn,Om,Uj,Ur,Jq,Y1,Uo,looks,O5,Op.operands,Call.operands,kd,Ud,List.filterMap_cons,List.filterMap_nil,List.append_nil,List.nil_append,List.cons_append,Ji,stable,Jl,J4,Jt,waits,Yr,List.all_cons,List.all_nil,List.any_cons,List.any_nil,Region.binds,Bool.or_true,Bool.true_or,Bool.and_true,Bool.true_and,Bool.or_false,Bool.false_or,Bool.and_self,Bool.or_self,Jc,Nat.le_refl,Nat.le_add_right,List.map_cons,Array.toList_append,f,read1,Zw]<;>rfl))
    exact⟨_,_,(by simp (maxSteps:=9^6) +decide (disch:=first|omega|(simp only[lens]<;>omega)|decide) only [go_sem,Zf,Za,simprocAttr]<;>rfl),rfl,fun m hm=>by (first|(simp (discharger:=omega) only [H.get_put,H.Zi,H.Zm,H.Zd,H.Zg,H.Zj,if_neg]; done)|(simp only[H.get_put,H.Zi,H.Zm,H.Zd,H.Zg,H.Zj]; (repeat' split)<;>first|rfl|(exfalso; omega)|omega))⟩
   exact cc.quiet rfl hk
 ·cases e
theorem En {args:List W} {h h':Go.Ev.H} {v:V} (e:Zl9 args h=some (v,h')):Ze K Tryz.prog 41 args h v h':=by
 unfold Zl9 at e
 split at e
 ·rename_i z
  obtain⟨a,b,c,d,rfl,rfl,rfl,rfl,f,e⟩:=Ov e
  obtain⟨g1,g2,g3,g4,g5,g6,g7,g8,g9,g10,g11⟩:=Z0 f
  have b0:a * c≤4 * 64:=Nat.mul_le_mul (by omega) (by omega)
  rcases bz:decide (1≤z)&&decide (z≤((a * c:Nat):Int)) with _|_
  ·rw[bz] at e
   cases e
   obtain⟨v,h',cc,rfl,hk⟩:∃ v h',Ze K Tryz.prog 41 [.g [.int .i64 (a:Int),.int .i64 (b:Int),.int .i64 (c:Int),.int .i64 (d:Int)],.c (.int .i64 z)] h v h'∧v=.tup [.c (.int .i64 0),.c (.int .i64 0),.c (.bool false)]∧∀ m,m<h.next→h'.get m=h.get m:=by
    refine Ze.Z8 fits Hh (by kernel_rfl) (by kernel_rfl) (by kernel_rfl) (show Tryz.f41.body=some _ from rfl) rfl ?_
    repeat (first|apply Goes.seq|apply Goes.block|apply Goes.loop|apply Goes.skip|apply Goes.exit|apply Goes.ret|((first|apply Goes.Zr|apply Goes.ops2 fits Hh (Zh (Zh Zc (fun _ _ _ _=>Li Hh)) (fun _ _ _ _=>Nn Hh))); · simp (maxSteps:=9^6) +decide (disch:=first|omega|(simp only[lens]<;>omega)|decide) only [go_sem,Zf,Za,simprocAttr,f,bz,read1,Zw]<;>rfl))
    exact⟨_,_,(by simp (maxSteps:=9^6) +decide (disch:=first|omega|(simp only[lens]<;>omega)|decide) only [go_sem,Zf,Za,simprocAttr]<;>rfl),rfl,fun m hm=>by (first|(simp (discharger:=omega) only [H.get_put,H.Zi,H.Zm,H.Zd,H.Zg,H.Zj,if_neg]; done)|(simp only[H.get_put,H.Zi,H.Zm,H.Zd,H.Zg,H.Zj]; (repeat' split)<;>first|rfl|(exfalso; omega)|omega))⟩
   exact cc.quiet rfl hk
  rw[bz] at e
  simp only[Bool.and_eq_true,decide_eq_true_eq] at bz
  obtain⟨z1,z2⟩:=bz
  cases e
  obtain⟨j,hj⟩:∃ j,z.toNat - 1=j:=⟨_,rfl⟩
  obtain rfl:z=((j+1:Nat):Int):=by omega
  rw[hj]
  have hk0:j / c<a:=Nat.div_lt_of_lt_mul (by rw[Nat.mul_comm]; omega)
  have hm:j % c<c:=Nat.mod_lt _ (by omega)
  have b1:j / c * b≤a * b:=Nat.mul_le_mul (by omega) (by omega)
  have hz:(((j+1:Nat):Int).toNat - 1)=j:=hj
  obtain⟨k,hk⟩:∃ k,j / c=k:=⟨_,rfl⟩
  obtain⟨r,hr⟩:∃ r,j % c=r:=⟨_,rfl⟩
  rw[hk] at hk0 b1
  rw[hr] at hm
  rw[hk,hr]
  have d1:decide (1≤((j+1:Nat):Int))=true:=decide_eq_true z1
  have d2:decide (((j+1:Nat):Int)≤((a * c:Nat):Int))=true:=decide_eq_true z2
  obtain⟨q,hq⟩:∃ q,k * b=q:=⟨_,rfl⟩
  rw[hq] at b1 ⊢
  obtain⟨v,h',cc,rfl,hk⟩:∃ v h',Ze K Tryz.prog 41 [.g [.int .i64 (a:Int),.int .i64 (b:Int),.int .i64 (c:Int),.int .i64 (d:Int)],.c (.int .i64 ((j+1:Nat):Int))] h v h'∧v=.tup [.c (.int .i64 ((2+d+q+2+r / 4:Nat):Int)),.c (.int .i64 ((r % 4 * 64:Nat):Int)),.c (.bool true)]∧∀ m,m<h.next→h'.get m=h.get m:=by
   refine Ze.Z8 fits Hh (by kernel_rfl) (by kernel_rfl) (by kernel_rfl) (show Tryz.f41.body=some _ from rfl) rfl ?_
   repeat (first|apply Goes.seq|apply Goes.block|apply Goes.loop|apply Goes.skip|apply Goes.exit|apply Goes.ret|((first|apply Goes.Zr|apply Goes.ops2 fits Hh (Zh (Zh Zc (fun _ _ _ _=>Li Hh)) (fun _ _ _ _=>Nn Hh))); · simp (maxSteps:=9^6) +decide (disch:=first|omega|(simp only[lens]<;>omega)|decide) only [go_sem,Zf,Za,simprocAttr,f,d1,d2,hz,hk,hr,hq,L6,Nf,read1,Zw]<;>rfl))
   exact⟨_,_,(by simp (maxSteps:=9^6) +decide (disch:=first|omega|(simp only[lens]<;>omega)|decide) only [go_sem,Zf,Za,simprocAttr]<;>rfl),rfl,fun m hm=>by (first|(simp (discharger:=omega) only [H.get_put,H.Zi,H.Zm,H.Zd,H.Zg,H.Zj,if_neg]; done)|(simp only[H.get_put,H.Zi,H.Zm,H.Zd,H.Zg,H.Zj]; (repeat' split)<;>first|rfl|(exfalso; omega)|omega))⟩
  exact cc.quiet rfl hk
 ·cases e
end
end Go.Proofs.YtngejdlimkgjfaaGreatDoor
set_option maxRecDepth 100000
set_option maxHeartbeats 4000000
namespace Go.Proofs.YtngejdlimkgjfaaGreatDoor
open Go.Ev
theorem rs32:Tryz.f32.results.toList=[.cell 2 23]:=rfl
theorem rs82:Tryz.f82.results.toList=[.tmp 2]:=rfl
theorem rs83:Tryz.f83.results.toList=[.tmp 2]:=rfl
theorem rs49:Tryz.f49.results.toList=[.tmp 2]:=rfl
theorem rs30:Tryz.f30.results.toList=[.tmp 2]:=rfl
theorem rs35:Tryz.f35.results.toList=[.tmp 4]:=rfl
theorem rs33:Tryz.f33.results.toList=[.tmp 4]:=rfl
attribute [go_sem] rs32 rs82 rs83 rs49 rs30 rs35 rs33
noncomputable def Zyg:Kn1:=fun args h=>match args with
 | [.c (.ptr s 0)]=>(M3 h s).bind fun S=>(Xq h S.gd).bind fun G=>some (.w (.g (Y6 G.gr G.sz G.ino G.jr)),h)
 | _=>none
noncomputable def Zrj:Kn1:=fun args h=>match args with
 | [.c (.ptr s 0)]=>(M3 h s).bind fun _=>some (.w (.c (.bool false)),h)
 | _=>none
noncomputable def Zzw:Kn1:=fun args h=>match args with
 | [.c (.ptr s 0)]=>(M3 h s).bind fun S=>(Bi h S.tx).bind fun X=>some (.w (.c (.bool X.op)),h)
 | _=>none
noncomputable def Zqd:Kn1:=fun args h=>match args with
 | [.c (.ptr s 0)]=>(M3 h s).bind fun S=>(Xq h S.gd).bind fun _=>some (.w (.c (.int .i64 0)),h)
 | _=>none
noncomputable def Zp6:Kn1:=fun args h=>match args with
 | [.c (.ptr s 0)]=>(M3 h s).bind fun S=>(Xq h S.gd).bind fun _=>(Bi h S.tx).bind fun X=>Y9 X.op (some (.w (.c (.int .i64 0)),h))
 | _=>none
noncomputable def Zgo:Kn1:=fun args h=>match args with
 | [.g [.int .i64 a,.int .i64 b,.int .i64 c,.int .i64 d],.c (.int .i64 k)]=>Q5 a b c d fun a b _ d=>(Ul k).bind fun k=>Y9 (decide (k<a)) (some (.w (.c (.int .i64 ((2+d+k * b+1:Nat):Int))),h))
 | _=>none
noncomputable def Zmk:Kn1:=fun args h=>match args with
 | [.g [a,b,c,d],.c z]=>some (.w (.c (.fn 85 [] [some (h.next,0),some (h.next+1,0)])),(h.new (.row 4 [[a,b,c,d]] false)).new (.row 1 [[z]] false))
 | _=>none
attribute [go_sem] Zyg Zrj Zzw Zqd Zp6 Zgo Zmk
section
variable (Hh:Hearts K Tryz.prog)
include Hh
theorem U6 {args:List W} {h h':Go.Ev.H} {v:V} (e:Zyg args h=some (v,h')):Ze K Tryz.prog 32 args h v h':=by
 unfold Zyg at e
 split at e
 ·rename_i s
  obtain⟨S,hs,e⟩:=Zo e
  have hs:=Ob hs
  obtain⟨G,hg,e⟩:=Zo e
  obtain⟨hg,fb⟩:=Bq hg
  cases e
  refine Ze.tidy ⟨Tryz.f32,Tryz.func32,by kernel_rfl,by decide⟩ fun tidy=>?_
  have l1:=tidy _ _ hs
  have l2:=tidy _ _ hg
  have gl4:Zf 9 [gdL G] 0 4=some (Y6 G.gr G.sz G.ino G.jr):=rfl
  have gl5:∀ x:List C,x.length≤4∧4≤x.length→Z5 4 [x] 0 (Y6 G.gr G.sz G.ino G.jr)=some [Y6 G.gr G.sz G.ino G.jr]:=fun x hx=>Rw ⟨Nat.le_refl 4,Nat.le_refl 4,hx.1,hx.2,by omega⟩
  have gl6:Zf 4 [Y6 G.gr G.sz G.ino G.jr] 0 4=some (Y6 G.gr G.sz G.ino G.jr):=rfl
  obtain⟨v,h',c,rfl,hk⟩:∃ v h',Ze K Tryz.prog 32 [.c (.ptr s 0)] h v h'∧v=.w (.g (Y6 G.gr G.sz G.ino G.jr))∧∀ m,m<h.next→h'.get m=h.get m:=by
   refine Ze.Z8 fits Hh (by kernel_rfl) (by kernel_rfl) (by kernel_rfl) (show Tryz.f32.body=some _ from rfl) rfl ?_
   repeat (first|apply Goes.seq|apply Goes.block|apply Goes.loop|apply Goes.skip|apply Goes.exit|apply Goes.ret|((first|apply Goes.Zr|apply Goes.ops2 fits Hh (Zh Zc (fun _ _ _ _=>Gz Hh))); · simp (maxSteps:=9^6) +decide (disch:=first|omega|(simp only[lens]<;>omega)|decide) only [go_sem,Za,simprocAttr,hs,hg,gl4,gl5,gl6,read1]<;>rfl))
   exact⟨_,_,(by simp (maxSteps:=9^6) +decide (disch:=first|omega|(simp only[lens]<;>omega)|decide) only [go_sem,Za,simprocAttr,gl6]<;>rfl),rfl,fun m hm=>by (first|(simp (discharger:=omega) only [H.get_put,H.Zi,H.Zm,H.Zd,H.Zg,H.Zj,if_neg]; done)|(simp only[H.get_put,H.Zi,H.Zm,H.Zd,H.Zg,H.Zj]; (repeat' split)<;>first|rfl|(exfalso; omega)|omega))⟩
  exact c.quiet rfl hk
 ·cases e
theorem Zvo {args:List W} {h h':Go.Ev.H} {v:V} (e:Zrj args h=some (v,h')):Ze K Tryz.prog 82 args h v h':=by
 unfold Zrj at e
 split at e
 ·rename_i s
  obtain⟨S,hs,e⟩:=Zo e
  have hs:=Ob hs
  cases e
  refine Ze.goes fits Hh (by kernel_rfl) (by kernel_rfl) (by kernel_rfl) (show Tryz.f82.body=some _ from rfl) rfl ?_
  repeat (first|apply Goes.seq|apply Goes.block|apply Goes.loop|apply Goes.skip|apply Goes.exit|apply Goes.ret|((first|apply Goes.Zr|apply Goes.ops2 fits Hh (Zh Zc (fun _ _ _ _=>Gz Hh))); · simp (maxSteps:=9^6) +decide (disch:=first|omega|(simp only[lens]<;>omega)|decide) only [go_sem,Zf,Za,simprocAttr,hs,read1]<;>rfl))
  simp (maxSteps:=9^6) +decide (disch:=first|omega|(simp only[lens]<;>omega)|decide) only [go_sem,Zf,Za,simprocAttr]<;>rfl
 ·cases e
theorem Zzn {args:List W} {h h':Go.Ev.H} {v:V} (e:Zzw args h=some (v,h')):Ze K Tryz.prog 83 args h v h':=by
 unfold Zzw at e
 split at e
 ·rename_i s
  obtain⟨S,hs,e⟩:=Zo e
  have hs:=Ob hs
  obtain⟨X,ht,e⟩:=Zo e
  have ht:=Jj ht
  cases e
  refine Ze.goes fits Hh (by kernel_rfl) (by kernel_rfl) (by kernel_rfl) (show Tryz.f83.body=some _ from rfl) rfl ?_
  repeat (first|apply Goes.seq|apply Goes.block|apply Goes.loop|apply Goes.skip|apply Goes.exit|apply Goes.ret|((first|apply Goes.Zr|apply Goes.ops2 fits Hh (Zh (Zh Zc (fun _ _ _ _=>Gz Hh)) (fun _ _ _ _=>Zdb Hh))); · simp (maxSteps:=9^6) +decide (disch:=first|omega|(simp only[lens]<;>omega)|decide) only [go_sem,Zf,Za,simprocAttr,hs,ht,read1]<;>rfl))
  simp (maxSteps:=9^6) +decide (disch:=first|omega|(simp only[lens]<;>omega)|decide) only [go_sem,Zf,Za,simprocAttr]<;>rfl
 ·cases e
theorem Zeh {args:List W} {h h':Go.Ev.H} {v:V} (e:Zqd args h=some (v,h')):Ze K Tryz.prog 49 args h v h':=by
 unfold Zqd at e
 split at e
 ·rename_i s
  obtain⟨S,hs,e⟩:=Zo e
  have hs:=Ob hs
  obtain⟨G,hg,e⟩:=Zo e
  obtain⟨hg,fb⟩:=Bq hg
  cases e
  refine Ze.goes fits Hh (by kernel_rfl) (by kernel_rfl) (by kernel_rfl) (show Tryz.f49.body=some _ from rfl) rfl ?_
  repeat (first|apply Goes.seq|apply Goes.block|apply Goes.loop|apply Goes.skip|apply Goes.exit|apply Goes.ret|((first|apply Goes.Zr|apply Goes.ops2 fits Hh (Zh (Zh Zc (fun _ _ _ _=>U6 Hh)) (fun _ _ _ _=>U9 Hh))); · simp (maxSteps:=9^6) +decide (disch:=first|omega|(simp only[lens]<;>omega)|decide) only [go_sem,Zf,Za,simprocAttr,hs,hg,gdL,fb,Y6]<;>rfl))
  simp (maxSteps:=9^6) +decide (disch:=first|omega|(simp only[lens]<;>omega)|decide) only [go_sem,Zf,Za,simprocAttr]<;>rfl
 ·cases e
theorem Tf {args:List W} {h h':Go.Ev.H} {v:V} (e:Zp6 args h=some (v,h')):Ze K Tryz.prog 30 args h v h':=by
 unfold Zp6 at e
 split at e
 ·rename_i s
  obtain⟨S,hs,e⟩:=Zo e
  have hs:=Ob hs
  obtain⟨G,hg,e⟩:=Zo e
  obtain⟨hg,fb⟩:=Bq hg
  obtain⟨X,ht,e⟩:=Zo e
  have ht:=Jj ht
  obtain⟨bo,e⟩:=Zv.1 e
  cases e
  refine Ze.goes fits Hh (by kernel_rfl) (by kernel_rfl) (by kernel_rfl) (show Tryz.f30.body=some _ from rfl) rfl ?_
  repeat (first|apply Goes.seq|apply Goes.block|apply Goes.loop|apply Goes.skip|apply Goes.exit|apply Goes.ret|((first|apply Goes.Zr|apply Goes.ops2 fits Hh (Zh (Zh (Zh Zc (fun _ _ _ _=>Zeh Hh)) (fun _ _ _ _=>Zvo Hh)) (fun _ _ _ _=>Zzn Hh))); · simp (maxSteps:=9^6) +decide (disch:=first|omega|(simp only[lens]<;>omega)|decide) only [go_sem,Zf,Za,simprocAttr,hs,ht,hg,gdL,fb,bo]<;>rfl))
  simp (maxSteps:=9^6) +decide (disch:=first|omega|(simp only[lens]<;>omega)|decide) only [go_sem,Zf,Za,simprocAttr]<;>rfl
 ·cases e
theorem Dx {args:List W} {h h':Go.Ev.H} {v:V} (e:Zgo args h=some (v,h')):Ze K Tryz.prog 35 args h v h':=by
 unfold Zgo at e
 split at e
 ·obtain⟨a,b,c,d,rfl,rfl,rfl,rfl,f,e⟩:=Ov e
  obtain⟨g1,g2,g3,g4,g5,g6,g7,g8,g9,g10,g11⟩:=Z0 f
  obtain⟨k,hk,e⟩:=Zo e
  obtain⟨bk,e⟩:=Zv.1 e
  have kl:=of_decide_eq_true bk
  cases e
  rw[Z6 hk]
  have b1:k * b≤a * b:=Nat.mul_le_mul (by omega) (by omega)
  obtain⟨q,hq⟩:∃ q,k * b=q:=⟨_,rfl⟩
  have e1:((2+d+q:Nat):Int)+1=((2+d+q+1:Nat):Int):=rfl
  rw[hq] at b1 ⊢
  obtain⟨v,h',cc,rfl,hk⟩:∃ v h',Ze K Tryz.prog 35 [.g [.int .i64 (a:Int),.int .i64 (b:Int),.int .i64 (c:Int),.int .i64 (d:Int)],.c (.int .i64 (k:Int))] h v h'∧v=.w (.c (.int .i64 ((2+d+q+1:Nat):Int)))∧∀ m,m<h.next→h'.get m=h.get m:=by
   refine Ze.Z8 fits Hh (by kernel_rfl) (by kernel_rfl) (by kernel_rfl) (show Tryz.f35.body=some _ from rfl) rfl ?_
   repeat (first|apply Goes.seq|apply Goes.block|apply Goes.loop|apply Goes.skip|apply Goes.exit|apply Goes.ret|((first|apply Goes.Zr|apply Goes.ops2 fits Hh (Zh Zc (fun _ _ _ _=>Nn Hh))); · simp (maxSteps:=9^6) +decide (disch:=first|omega|(simp only[lens]<;>omega)|decide) only [go_sem,Zf,Za,simprocAttr,f,hq,e1,read1,Zw]<;>rfl))
   exact⟨_,_,(by simp (maxSteps:=9^6) +decide (disch:=first|omega|(simp only[lens]<;>omega)|decide) only [go_sem,Zf,Za,simprocAttr]<;>rfl),rfl,fun m hm=>by (first|(simp (discharger:=omega) only [H.get_put,H.Zi,H.Zm,H.Zd,H.Zg,H.Zj,if_neg]; done)|(simp only[H.get_put,H.Zi,H.Zm,H.Zd,H.Zg,H.Zj]; (repeat' split)<;>first|rfl|(exfalso; omega)|omega))⟩
  exact cc.quiet rfl hk
 ·cases e
theorem Zrw {args:List W} {h h':Go.Ev.H} {v:V} (e:Zmk args h=some (v,h')):Ze K Tryz.prog 33 args h v h':=by
 unfold Zmk at e
 split at e
 ·cases e
  refine Ze.goes fits Hh (by kernel_rfl) (by kernel_rfl) (by kernel_rfl) (show Tryz.f33.body=some _ from rfl) rfl ?_
  repeat (first|apply Goes.seq|apply Goes.block|apply Goes.loop|apply Goes.skip|apply Goes.exit|apply Goes.ret|((first|apply Goes.Zr|apply Goes.ops2 fits Hh Zc); · simp (maxSteps:=9^6) +decide (disch:=first|omega|(simp only[lens]<;>omega)|decide) only [go_sem,Zf,Za,simprocAttr,Zw]<;>rfl))
  simp (maxSteps:=9^6) +decide (disch:=first|omega|(simp only[lens]<;>omega)|decide) only [go_sem,Zf,Za,simprocAttr]<;>rfl
 ·cases e
end
end Go.Proofs.YtngejdlimkgjfaaGreatDoor
