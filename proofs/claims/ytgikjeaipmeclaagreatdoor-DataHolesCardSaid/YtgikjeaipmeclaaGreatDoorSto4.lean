/- A store at rest: Put, PutData. -/
import Derived.Test.YtgikjeaipmeclaaGreatDoorSto2
set_option linter.unusedSimpArgs false
set_option linter.unusedVariables false
set_option linter.unusedSectionVars false
set_option maxRecDepth 100000
set_option maxHeartbeats 4000000
namespace Go.Proofs.YtgikjeaipmeclaaGreatDoor
open Go.Ev
theorem rs109:Tryz.f109.results.toList=[.tmp 6]:=rfl
theorem rs36:Tryz.f36.results.toList=[.tmp 6]:=rfl
attribute [go_sem] rs109 rs36
theorem Zb6 {t:Nat} {z:Int} {x:List C} {h h':Go.Ev.H} {v:V} (e:Zew [.c (.ptr t 0),.c (.int .i64 z),.g x] h=some (v,h')):∃ X to lt lc lf m,h.get t=some (.row 13 [txL X] false)∧X.to=.map to∧h.get to=some (.map (Jv lt))∧h.get X.ch=some (.map (Jv lc))∧h.get X.fr=some (.map (Jv lf))∧h.get X.rv=some (.row 1 [[.map m]] false)∧h.get m=some (.map []) ∧
  X.op=true∧0≤z∧(match Y6 z lt with|none=>decide ((lt.length:Int)<X.cr)|some []=>true|some (_ :: _)=>false)=true∧x.length=256∧x.all C.flat=true∧O1 lt=true∧O1 lc=true∧O1 lf=true ∧
  Nat.beq to X.ch=false∧Nat.beq to X.fr=false∧Nat.beq X.ch X.fr=false∧Nat.beq to m=false∧Nat.beq X.ch m=false∧Nat.beq X.fr m=false∧Nat.beq to t=false∧Nat.beq X.ch t=false∧Nat.beq X.fr t=false∧Nat.beq to X.rv=false∧Nat.beq X.ch X.rv=false∧Nat.beq X.fr X.rv=false ∧
  v=.w (.c (.int .i64 0))∧h'=((h.put to (.map (Jv (Oc z [] lt)))).put X.ch (.map (Jv (Oc z x lc)))).put X.fr (.map (Jv (Zco z lf))):=by
 unfold Zew at e
 obtain⟨X,ht,e⟩:=Zl e
 have ht:=Ym ht
 obtain⟨to,hto,e⟩:=Zl e
 have hto:=Zky hto
 obtain⟨lt,hlt,e⟩:=Zl e
 have hlt:=getM_some hlt
 obtain⟨lc,hlc,e⟩:=Zl e
 have hlc:=getM_some hlc
 obtain⟨lf,hlf,e⟩:=Zl e
 have hlf:=getM_some hlf
 obtain⟨m,hr,e⟩:=Zl e
 have hr:=Uv hr
 obtain⟨b,e⟩:=Zq.1 e
 cases e
 simp only[Bool.and_eq_true,Bool.not_eq_true'] at b
 obtain⟨⟨⟨⟨⟨⟨⟨⟨⟨⟨⟨⟨⟨⟨⟨⟨⟨⟨⟨⟨bo,z0⟩,bm⟩,bc⟩,bx⟩,xf⟩,f1⟩,f2⟩,f3⟩,c1⟩,c2⟩,c3⟩,c4⟩,c5⟩,c6⟩,c7⟩,c8⟩,c9⟩,c10⟩,c11⟩,c12⟩:=b
 exact⟨X,to,lt,lc,lf,m,ht,hto,hlt,hlc,hlf,hr,Yt bm,bo,of_decide_eq_true z0,bc,Nat.eq_of_beq_eq_true bx,xf,f1,f2,f3,c1,c2,c3,c4,c5,c6,c7,c8,c9,c10,c11,c12,rfl,rfl⟩
noncomputable def Za7 (s:Nat) (S:Stt) (z:Int) (x:List C) (h:Go.Ev.H):Option (V × Go.Ev.H):=(getM h S.dt).bind fun _=>(getM h S.gv).bind fun _=>Yr (C.flat S.bs) (Zew [.c (.ptr S.tx 0),.c (.int .i64 z),.g x] (h.put s (.row 8 [stL { S with kn:=false }] false)))
noncomputable def Zgt:Kn1:=fun args h=>match args with
 | [.c (.ptr s 0),.c (.int .i64 z),.g x]=>(Ot h s).bind fun S=>(Uo h S.tx).bind fun X=>(Bn h S.gd).bind fun G=>Yr (X.op&&decide (z<9223372036854775808)&&O6 G.gr G.sz G.ino G.jr z) (Za7 s S z x h)
 | _=>none
noncomputable def F6:Kn1:=fun args h=>match args with
 | [.c (.ptr s 0),.c (.int .i64 z),.g x]=>(Ot h s).bind fun S=>(Uo h S.tx).bind fun X=>(Bn h S.gd).bind fun G=>Yr (X.op&&decide (z<9223372036854775808)&&O6 G.gr G.sz G.ino G.jr z)
  (bif decide (G.md=3) then Za7 s S z x h else (getM h S.dt).bind fun ld=>Yr (Nat.beq x.length 256&&x.all C.flat&&O1 ld) (some (.w (.c (.int .i64 0)),h.put S.dt (.map (Jv (Oc z (.int .i64 z :: x) ld))))))
 | _=>none
theorem Z2z {x:List C} {z:Int} (h:x.length≤256∧256≤x.length):Yc K 190 (some [(0,.c (.int .i64 z)),(1,.g x)])=some (.g (.int .i64 z :: x)):=by
 have zz:(ti190.zero).cells=.int .i64 0 :: List.replicate 256 (.int .u8 0):=by kernel_rfl
 have bu:∀ ps,Yc K 190 (some ps)=gW (Z9 K 190 ps (ti190.zero).cells):=fun ps=>by kernel_rfl
 rw[bu,zz]
 simp only[Z9,fo190_0,fo190_1]
 rw[show ti3.size=1 from rfl,Zny]
 simp only
 rw[show ti71.size=256 from rfl,Zrt ⟨h.1,h.2,by rw[List.length_replicate]; omega,by rw[List.length_replicate]; omega⟩]
 rfl
attribute [go_sem] Z2z
theorem Zvs {b:Nat} {S:Stt} (l2:S.gd<b) (l3:S.tx<b) (l4:S.dt<b) (l5:S.gv<b) (fb:C.flat S.bs=true) (k:Bool):Zrj b (.row 8 [stL { S with kn:=k }] false):=by
 refine Zp2 fun τ hτ=>?_
 show [[C.ptr (τ S.gd) 0,.ptr (τ S.tx) 0,.pnil,.map (τ S.dt),.map (τ S.gv),S.bs.ren τ,.bool k,.bool false]]=_
 rw[hτ _ l2,hτ _ l3,hτ _ l4,hτ _ l5,C.Jg fb]
 rfl
section
variable (Hh:Hearts K Tryz.prog)
include Hh
set_option maxHeartbeats 4000000 in
theorem Zaw {args:List W} {h h':Go.Ev.H} {v:V} (e:Zgt args h=some (v,h')):Ze K Tryz.prog 109 args h v h':=by
 unfold Zgt at e
 split at e
 ·rename_i s z x
  obtain⟨S,hs,e⟩:=Zl e
  have hs:=Yx hs
  obtain⟨X,ht,e⟩:=Zl e
  have ht:=Ym ht
  obtain⟨G,hg,e⟩:=Zl e
  obtain⟨hg,fb⟩:=Ja hg
  obtain⟨b,e⟩:=Zq.1 e
  simp only[Bool.and_eq_true,decide_eq_true_eq] at b
  obtain⟨⟨bo,z1⟩,bou⟩:=b
  refine Ze.tidy ⟨Tryz.f109,Tryz.func109,by kernel_rfl,by decide⟩ fun tidy=>?_
  unfold Za7 at e
  obtain⟨ldt,hdt,e⟩:=Zl e
  have hdt:=getM_some hdt
  obtain⟨lgv,hgv,e⟩:=Zl e
  have hgv:=getM_some hgv
  obtain⟨fbs,e⟩:=Zq.1 e
  have l1:=tidy _ _ hs
  have k2:=tidy _ _ hg
  have k3:=tidy _ _ ht
  have k4:=tidy _ _ hdt
  have k5:=tidy _ _ hgv
  have hput:∀ m,m≠s→(h.put s (.row 8 [stL { S with kn:=false }] false)).get m=h.get m:=fun m hm=>Zp hm
  have nt:S.tx≠s:=fun e1=>by rw[e1,hs] at ht; cases ht
  obtain⟨X',to,lt,lc,lf,m,ht',hto,hlt,hlc,hlf,hr,hm,bo',z0,bc,xl,xf,f1,f2,f3,c1,c2,c3,c4,c5,c6,c7,c8,c9,c10,c11,c12,rfl,rfl⟩:=Zb6 e
  rw[hput _ nt] at ht'
  have n0:to≠s:=fun e1=>by rw[e1,Z8] at hlt; cases hlt
  have nc:X'.ch≠s:=fun e1=>by rw[e1,Z8] at hlc; cases hlc
  have nf:X'.fr≠s:=fun e1=>by rw[e1,Z8] at hlf; cases hlf
  have nr:X'.rv≠s:=fun e1=>by rw[e1,Z8] at hr; cases hr
  have nm:m≠s:=fun e1=>by rw[e1,Z8] at hm; cases hm
  rw[hput _ n0] at hlt
  rw[hput _ nc] at hlc
  rw[hput _ nf] at hlf
  rw[hput _ nr] at hr
  rw[hput _ nm] at hm
  have k6:=tidy _ _ hlt
  have k7:=tidy _ _ hlc
  have k8:=tidy _ _ hlf
  have k9:=tidy _ _ hr
  have k10:=tidy _ _ hm
  have n1:=Yw c1
  have n2:=Yw c2
  have n3:=Yw c3
  have n4:=Yw c4
  have n5:=Yw c5
  have n6:=Yw c6
  have n7:=Yw c7
  have n8:=Yw c8
  have n9:=Yw c9
  have n10:=Yw c10
  have n11:=Yw c11
  have n12:=Yw c12
  have md3:True:=trivial
  have z0d:decide (0≤z)=true:=decide_eq_true z0
  obtain⟨v,h',c,rfl,hk⟩:∃ v h',Ze K Tryz.prog 109 [.c (.ptr s 0),.c (.int .i64 z),.g x] h v h'∧v=.w (.c (.int .i64 0))∧∀ j,j<h.next→h'.get j=((((h.put s (.row 8 [stL { S with kn:=false }] false)).put to (.map (Jv (Oc z [] lt)))).put X'.ch (.map (Jv (Oc z x lc)))).put X'.fr (.map (Jv (Zco z lf)))).get j:=by
   rcases hl:Y6 z lt with _|y
   ·
    rw[hl] at bc
    have bc:decide ((lt.length:Int)<X'.cr)=true:=bc
    refine Ze.Yi fits Hh (by kernel_rfl) (by kernel_rfl) (by kernel_rfl) (show Tryz.f109.body=some _ from rfl) rfl ?_
    repeat (first|apply Goes.seq|apply Goes.block|apply Goes.loop|apply Goes.skip|apply Goes.exit|apply Goes.ret|((first|apply Goes.Zm|apply Goes.ops2 fits Hh (Zf (Zf Zc (fun _ _ _ _=>Ur Hh)) (fun _ _ _ _=>Bt Hh))); · simp (maxSteps:=9^6) +decide (disch:=first|omega|(simp only[lens]<;>omega)|decide) only [go_sem,Za,simprocAttr,hs,ht',hg,gdL,fb,bou,bo',md3,z0d,hto,hlt,hlc,hlf,hr,hm,hl,bc,xl,xf,f1,f2,f3,c1,c2,c3,c4,c5,c6,c7,c8,c9,c10,c11,c12,read1]<;>rfl)|(apply Goes.drawn2 fits Hh (Zf (Zf Zc (fun _ _ _ _=>Ur Hh)) (fun _ _ _ _=>Bt Hh)) (by kernel_rfl); · simp (maxSteps:=9^6) +decide (disch:=first|omega|(simp only[lens]<;>omega)|decide) only [go_sem,Za,simprocAttr,drG,hs,ht',hg,gdL,fb,bou,bo',md3,z0d,hto,hlt,hlc,hlf,hr,hm,hl,bc,xl,xf,f1,f2,f3,c1,c2,c3,c4,c5,c6,c7,c8,c9,c10,c11,c12,read1]<;>rfl))
    exact⟨_,_,(by simp (maxSteps:=9^6) +decide (disch:=first|omega|(simp only[lens]<;>omega)|decide) only [go_sem,Za,simprocAttr]<;>rfl),rfl,fun j hj=>by (first|(simp (discharger:=omega) only [H.get_put,H.Zi,H.Yd,H.Zg,H.Zj,H.Zr,if_neg]; done)|(simp only[H.get_put,H.Zi,H.Yd,H.Zg,H.Zj,H.Zr]; (repeat' split)<;>first|rfl|(exfalso; omega)|omega))⟩
   ·
    rw[hl] at bc
    rcases y with _|⟨y0,y⟩
    ·
     refine Ze.Yi fits Hh (by kernel_rfl) (by kernel_rfl) (by kernel_rfl) (show Tryz.f109.body=some _ from rfl) rfl ?_
     repeat (first|apply Goes.seq|apply Goes.block|apply Goes.loop|apply Goes.skip|apply Goes.exit|apply Goes.ret|((first|apply Goes.Zm|apply Goes.ops2 fits Hh (Zf (Zf Zc (fun _ _ _ _=>Ur Hh)) (fun _ _ _ _=>Bt Hh))); · simp (maxSteps:=9^6) +decide (disch:=first|omega|(simp only[lens]<;>omega)|decide) only [go_sem,Za,simprocAttr,hs,ht',hg,gdL,fb,bou,bo',md3,z0d,hto,hlt,hlc,hlf,hr,hm,hl,bc,xl,xf,f1,f2,f3,c1,c2,c3,c4,c5,c6,c7,c8,c9,c10,c11,c12,read1]<;>rfl)|(apply Goes.drawn2 fits Hh (Zf (Zf Zc (fun _ _ _ _=>Ur Hh)) (fun _ _ _ _=>Bt Hh)) (by kernel_rfl); · simp (maxSteps:=9^6) +decide (disch:=first|omega|(simp only[lens]<;>omega)|decide) only [go_sem,Za,simprocAttr,drG,hs,ht',hg,gdL,fb,bou,bo',md3,z0d,hto,hlt,hlc,hlf,hr,hm,hl,bc,xl,xf,f1,f2,f3,c1,c2,c3,c4,c5,c6,c7,c8,c9,c10,c11,c12,read1]<;>rfl))
     exact⟨_,_,(by simp (maxSteps:=9^6) +decide (disch:=first|omega|(simp only[lens]<;>omega)|decide) only [go_sem,Za,simprocAttr]<;>rfl),rfl,fun j hj=>by (first|(simp (discharger:=omega) only [H.get_put,H.Zi,H.Yd,H.Zg,H.Zj,H.Zr,if_neg]; done)|(simp only[H.get_put,H.Zi,H.Yd,H.Zg,H.Zj,H.Zr]; (repeat' split)<;>first|rfl|(exfalso; omega)|omega))⟩
    ·cases bc
  exact c.settle (((((Mv.refl tidy).put l1 (Zvs k2 k3 k4 k5 fbs false)).put k6 (Bj (Ux rfl f1))).put k7 (Bj (Ux xf f2))).put k8 (Bj (Qi f3))) (Zd2.flat rfl) hk
 ·cases e
set_option maxHeartbeats 4000000 in
theorem Q8 {args:List W} {h h':Go.Ev.H} {v:V} (e:F6 args h=some (v,h')):Ze K Tryz.prog 36 args h v h':=by
 unfold F6 at e
 split at e
 ·rename_i s z x
  obtain⟨S,hs,e⟩:=Zl e
  have hs:=Yx hs
  obtain⟨X,ht,e⟩:=Zl e
  have ht:=Ym ht
  obtain⟨G,hg,e⟩:=Zl e
  obtain⟨hg,fb⟩:=Ja hg
  obtain⟨b,e⟩:=Zq.1 e
  simp only[Bool.and_eq_true,decide_eq_true_eq] at b
  obtain⟨⟨bo,z1⟩,bou⟩:=b
  refine Ze.tidy ⟨Tryz.f36,Tryz.func36,by kernel_rfl,by decide⟩ fun tidy=>?_
  by_cases md3:G.md=3
  ·
   rw[decide_eq_true md3] at e
   have e:Za7 s S z x h=some (v,h'):=e
   unfold Za7 at e
   obtain⟨ldt,hdt,e⟩:=Zl e
   have hdt:=getM_some hdt
   obtain⟨lgv,hgv,e⟩:=Zl e
   have hgv:=getM_some hgv
   obtain⟨fbs,e⟩:=Zq.1 e
   have l1:=tidy _ _ hs
   have k2:=tidy _ _ hg
   have k3:=tidy _ _ ht
   have k4:=tidy _ _ hdt
   have k5:=tidy _ _ hgv
   have hput:∀ m,m≠s→(h.put s (.row 8 [stL { S with kn:=false }] false)).get m=h.get m:=fun m hm=>Zp hm
   have nt:S.tx≠s:=fun e1=>by rw[e1,hs] at ht; cases ht
   obtain⟨X',to,lt,lc,lf,m,ht',hto,hlt,hlc,hlf,hr,hm,bo',z0,bc,xl,xf,f1,f2,f3,c1,c2,c3,c4,c5,c6,c7,c8,c9,c10,c11,c12,rfl,rfl⟩:=Zb6 e
   rw[hput _ nt] at ht'
   have n0:to≠s:=fun e1=>by rw[e1,Z8] at hlt; cases hlt
   have nc:X'.ch≠s:=fun e1=>by rw[e1,Z8] at hlc; cases hlc
   have nf:X'.fr≠s:=fun e1=>by rw[e1,Z8] at hlf; cases hlf
   have nr:X'.rv≠s:=fun e1=>by rw[e1,Z8] at hr; cases hr
   have nm:m≠s:=fun e1=>by rw[e1,Z8] at hm; cases hm
   rw[hput _ n0] at hlt
   rw[hput _ nc] at hlc
   rw[hput _ nf] at hlf
   rw[hput _ nr] at hr
   rw[hput _ nm] at hm
   have k6:=tidy _ _ hlt
   have k7:=tidy _ _ hlc
   have k8:=tidy _ _ hlf
   have k9:=tidy _ _ hr
   have k10:=tidy _ _ hm
   have n1:=Yw c1
   have n2:=Yw c2
   have n3:=Yw c3
   have n4:=Yw c4
   have n5:=Yw c5
   have n6:=Yw c6
   have n7:=Yw c7
   have n8:=Yw c8
   have n9:=Yw c9
   have n10:=Yw c10
   have n11:=Yw c11
   have n12:=Yw c12
   have z0d:decide (0≤z)=true:=decide_eq_true z0
   obtain⟨v,h',c,rfl,hk⟩:∃ v h',Ze K Tryz.prog 36 [.c (.ptr s 0),.c (.int .i64 z),.g x] h v h'∧v=.w (.c (.int .i64 0))∧∀ j,j<h.next→h'.get j=((((h.put s (.row 8 [stL { S with kn:=false }] false)).put to (.map (Jv (Oc z [] lt)))).put X'.ch (.map (Jv (Oc z x lc)))).put X'.fr (.map (Jv (Zco z lf)))).get j:=by
    rcases hl:Y6 z lt with _|y
    ·
     rw[hl] at bc
     have bc:decide ((lt.length:Int)<X'.cr)=true:=bc
     refine Ze.Yi fits Hh (by kernel_rfl) (by kernel_rfl) (by kernel_rfl) (show Tryz.f36.body=some _ from rfl) rfl ?_
     repeat (first|apply Goes.seq|apply Goes.block|apply Goes.loop|apply Goes.skip|apply Goes.exit|apply Goes.ret|((first|apply Goes.Zm|apply Goes.ops2 fits Hh (Zf (Zf Zc (fun _ _ _ _=>Ur Hh)) (fun _ _ _ _=>Bt Hh))); · simp (maxSteps:=9^6) +decide (disch:=first|omega|(simp only[lens]<;>omega)|decide) only [go_sem,Za,simprocAttr,hs,ht',hg,gdL,fb,bou,bo',md3,z0d,hto,hlt,hlc,hlf,hr,hm,hl,bc,xl,xf,f1,f2,f3,c1,c2,c3,c4,c5,c6,c7,c8,c9,c10,c11,c12,read1]<;>rfl)|(apply Goes.drawn2 fits Hh (Zf (Zf Zc (fun _ _ _ _=>Ur Hh)) (fun _ _ _ _=>Bt Hh)) (by kernel_rfl); · simp (maxSteps:=9^6) +decide (disch:=first|omega|(simp only[lens]<;>omega)|decide) only [go_sem,Za,simprocAttr,drG,hs,ht',hg,gdL,fb,bou,bo',md3,z0d,hto,hlt,hlc,hlf,hr,hm,hl,bc,xl,xf,f1,f2,f3,c1,c2,c3,c4,c5,c6,c7,c8,c9,c10,c11,c12,read1]<;>rfl))
     exact⟨_,_,(by simp (maxSteps:=9^6) +decide (disch:=first|omega|(simp only[lens]<;>omega)|decide) only [go_sem,Za,simprocAttr]<;>rfl),rfl,fun j hj=>by (first|(simp (discharger:=omega) only [H.get_put,H.Zi,H.Yd,H.Zg,H.Zj,H.Zr,if_neg]; done)|(simp only[H.get_put,H.Zi,H.Yd,H.Zg,H.Zj,H.Zr]; (repeat' split)<;>first|rfl|(exfalso; omega)|omega))⟩
    ·
     rw[hl] at bc
     rcases y with _|⟨y0,y⟩
     ·
      refine Ze.Yi fits Hh (by kernel_rfl) (by kernel_rfl) (by kernel_rfl) (show Tryz.f36.body=some _ from rfl) rfl ?_
      repeat (first|apply Goes.seq|apply Goes.block|apply Goes.loop|apply Goes.skip|apply Goes.exit|apply Goes.ret|((first|apply Goes.Zm|apply Goes.ops2 fits Hh (Zf (Zf Zc (fun _ _ _ _=>Ur Hh)) (fun _ _ _ _=>Bt Hh))); · simp (maxSteps:=9^6) +decide (disch:=first|omega|(simp only[lens]<;>omega)|decide) only [go_sem,Za,simprocAttr,hs,ht',hg,gdL,fb,bou,bo',md3,z0d,hto,hlt,hlc,hlf,hr,hm,hl,bc,xl,xf,f1,f2,f3,c1,c2,c3,c4,c5,c6,c7,c8,c9,c10,c11,c12,read1]<;>rfl)|(apply Goes.drawn2 fits Hh (Zf (Zf Zc (fun _ _ _ _=>Ur Hh)) (fun _ _ _ _=>Bt Hh)) (by kernel_rfl); · simp (maxSteps:=9^6) +decide (disch:=first|omega|(simp only[lens]<;>omega)|decide) only [go_sem,Za,simprocAttr,drG,hs,ht',hg,gdL,fb,bou,bo',md3,z0d,hto,hlt,hlc,hlf,hr,hm,hl,bc,xl,xf,f1,f2,f3,c1,c2,c3,c4,c5,c6,c7,c8,c9,c10,c11,c12,read1]<;>rfl))
      exact⟨_,_,(by simp (maxSteps:=9^6) +decide (disch:=first|omega|(simp only[lens]<;>omega)|decide) only [go_sem,Za,simprocAttr]<;>rfl),rfl,fun j hj=>by (first|(simp (discharger:=omega) only [H.get_put,H.Zi,H.Yd,H.Zg,H.Zj,H.Zr,if_neg]; done)|(simp only[H.get_put,H.Zi,H.Yd,H.Zg,H.Zj,H.Zr]; (repeat' split)<;>first|rfl|(exfalso; omega)|omega))⟩
     ·cases bc
   exact c.settle (((((Mv.refl tidy).put l1 (Zvs k2 k3 k4 k5 fbs false)).put k6 (Bj (Ux rfl f1))).put k7 (Bj (Ux xf f2))).put k8 (Bj (Qi f3))) (Zd2.flat rfl) hk
  ·
   rw[decide_eq_false md3] at e
   obtain⟨ld,hdt,e⟩:=Zl e
   have hdt:=getM_some hdt
   obtain⟨b,e⟩:=Zq.1 e
   simp only[Bool.and_eq_true] at b
   obtain⟨⟨bx,xf⟩,fl⟩:=b
   have xl:=Nat.eq_of_beq_eq_true bx
   have l1:=tidy _ _ hs
   have k2:=tidy _ _ hg
   have k3:=tidy _ _ ht
   have k4:=tidy _ _ hdt
   have md4:(G.md == 3)=false:=by simpa using md3
   have dz:List.drop 256 (List.drop 1 (List.replicate 1 (C.int .i64 0)++List.replicate 256 (C.int .u8 0)))=[]:=by kernel_rfl
   cases e
   obtain⟨v,h',c,rfl,hk⟩:∃ v h',Ze K Tryz.prog 36 [.c (.ptr s 0),.c (.int .i64 z),.g x] h v h'∧v=.w (.c (.int .i64 0))∧∀ j,j<h.next→h'.get j=(h.put S.dt (.map (Jv (Oc z (.int .i64 z :: x) ld)))).get j:=by
    refine Ze.Yi fits Hh (by kernel_rfl) (by kernel_rfl) (by kernel_rfl) (show Tryz.f36.body=some _ from rfl) rfl ?_
    repeat (first|apply Goes.seq|apply Goes.block|apply Goes.loop|apply Goes.skip|apply Goes.exit|apply Goes.ret|((first|apply Goes.Zm|apply Goes.ops2 fits Hh (Zf (Zf Zc (fun _ _ _ _=>Ur Hh)) (fun _ _ _ _=>Bt Hh))); · simp (maxSteps:=9^6) +decide (disch:=first|omega|(simp only[lens]<;>omega)|decide) only [go_sem,Za,simprocAttr,hs,ht,hg,gdL,fb,bou,bo,md4,dz,hdt,xl,read1]<;>rfl)|(apply Goes.drawn2 fits Hh (Zf (Zf Zc (fun _ _ _ _=>Ur Hh)) (fun _ _ _ _=>Bt Hh)) (by kernel_rfl); · simp (maxSteps:=9^6) +decide (disch:=first|omega|(simp only[lens]<;>omega)|decide) only [go_sem,Za,simprocAttr,drG,hs,ht,hg,gdL,fb,bou,bo,md4,dz,hdt,xl,read1]<;>rfl))
    exact⟨_,_,(by simp (maxSteps:=9^6) +decide (disch:=first|omega|(simp only[lens]<;>omega)|decide) only [go_sem,Za,simprocAttr]<;>rfl),rfl,fun j hj=>by (first|(simp (discharger:=omega) only [H.get_put,H.Zi,H.Yd,H.Zg,H.Zj,H.Zr,if_neg]; done)|(simp only[H.get_put,H.Zi,H.Yd,H.Zg,H.Zj,H.Zr]; (repeat' split)<;>first|rfl|(exfalso; omega)|omega))⟩
   refine c.settle ((Mv.refl tidy).put k4 (Bj (Ux ?_ fl))) (Zd2.flat rfl) hk
   show (true&&x.all C.flat)=true
   rw[xf]; rfl
 ·cases e
end
end Go.Proofs.YtgikjeaipmeclaaGreatDoor
