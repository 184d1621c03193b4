/- What Begin asks: revoked and changed blocks, if there are none; need. -/
import Derived.Test.YtngejdlimkgjfaaGreatDoorNew2
set_option linter.unusedSimpArgs false
set_option linter.unusedVariables false
set_option linter.unusedSectionVars false
set_option maxRecDepth 100000
set_option maxHeartbeats 4000000
namespace Go.Proofs.YtngejdlimkgjfaaGreatDoor
open Go.Ev
theorem rs118:Tryz.f118.results.toList=[.tmp 4]:=rfl
theorem rs75:Tryz.f75.results.toList=[.tmp 2]:=rfl
theorem rs76:Tryz.f76.results.toList=[.tmp 2]:=rfl
theorem rs146:Tryz.f146.results.toList=[.tmp 2]:=rfl
theorem rs119:Tryz.f119.results.toList=[.tmp 2]:=rfl
theorem rs26:Tryz.f26.results.toList=[.tmp 6,.tmp 7]:=rfl
attribute [go_sem] rs118 rs75 rs76 rs146 rs119 rs26
noncomputable def Zqg:Kn1:=fun args h=>match args with
 | [.c .snil]=>some (.tup [],h)
 | _=>none
noncomputable def Z32:Kn1:=fun args h=>match args with
 | [.c (.ptr r 0),.c (.int .u32 _)]=>(Tn h r).bind fun m=>Y9 (Dt h m) (some (.w (.c .snil),h))
 | _=>none
noncomputable def Zec:Kn1:=fun args h=>match args with
 | [.c (.ptr t 0)]=>(Bi h t).bind fun X=>(Tn h X.rv).bind fun m=>Y9 (Dt h m) (some (.w (.c .snil),h))
 | _=>none
noncomputable def Zdt:Kn1:=fun args h=>match args with
 | [.c (.ptr t 0)]=>(Bi h t).bind fun X=>Y9 (Dt h X.ch) (some (.w (.c .snil),h))
 | _=>none
noncomputable def Zq9:Kn1:=fun args h=>match args with
 | [.c (.map m)]=>some (.w (.c (.fn 170 [] [some (h.next,0)])),h.new (.row 1 [[.map m]] false))
 | _=>none
noncomputable def Zl8:Kn1:=fun args h=>match args with
 | [.c (.fn g [] [some (a,0)])]=>Y9 (K.keys.contains g) (match h.get a with
  | some (.row sz [[.map n]] _)=>Y9 (Nat.beq sz 1) ((getM h n).bind fun l=>match Lf (J5 l) with
   | some []=>some (.w (.c .snil),h)
   | some (k :: ks)=>Y9 (Nat.ble (k :: ks).length 1000000) (some (.w (.c (.slice h.next 0 (k :: ks).length 1)),h.new (.row 1 ((k :: ks).map fun i=>[.int .i64 i]) false)))
   | none=>none)
  | _=>none)
 | _=>none
noncomputable def Zzu:Kn1:=fun args h=>match args with
 | [.c (.map m)]=>Y9 (Dt h m) (some (.w (.c .snil),h))
 | _=>none
def Zjn (a:Int):Option Int:=bif decide (a=33) then some 36 else bif decide (a=3) then some 5 else bif decide (a=9) then some 11 else none
theorem Zbf {a n:Int} (e:Zjn a=some n):(a=33∧n=36)∨(a=3∧n=5)∨(a=9∧n=11):=by
 unfold Zjn at e
 by_cases h1:a=33
 ·subst h1; cases e; exact .inl ⟨rfl,rfl⟩
 ·by_cases h2:a=3
  ·subst h2; cases e; exact .inr (.inl ⟨rfl,rfl⟩)
  ·by_cases h3:a=9
   ·subst h3; cases e; exact .inr (.inr ⟨rfl,rfl⟩)
   ·rw[decide_eq_false h1,decide_eq_false h2,decide_eq_false h3] at e; cases e
noncomputable def Zzt:Kn1:=fun args h=>match args with
 | [.c (.int .i64 a),.c (.int .i64 b)]=>(Zjn a).bind fun n=>Y9 (decide (b=0)) (some (.w (.c (.int .i64 n)),h))
 | _=>none
noncomputable def Zyl:Kn1:=fun args h=>match args with
 | [.c (.ptr s 0),.c (.int .i64 a),.c (.int .i64 b)]=>(M3 h s).bind fun S=>(Bi h S.tx).bind fun X=>(Tn h X.rv).bind fun m=>(Zjn a).bind fun n=>Y9 (Dt h m&&Dt h X.ch&&decide (b=0)) (some (.tup [.c (.int .i64 n),.c (.int .i64 0)],h))
 | _=>none
noncomputable def Zlt:Kn1:=fun args h=>match args with
 | [.c (.map m)]=>match h.get m with
  | some (.map es)=>some (.w (.c (.map h.next)),h.new (.map es))
  | _=>none
 | _=>none
noncomputable def Zma:Kn1:=fun args h=>match args with
 | [.c (.map m)]=>match h.get m with
  | some (.map es)=>some (.w (.c (.map h.next)),h.new (.map es))
  | _=>none
 | _=>none
attribute [go_sem] Zqg Z32 Zec Zdt Zq9 Zl8 Zzu Zzt Zyl Zlt Zma
theorem Z29:K.keys.contains 170=true:=by kernel_rfl
theorem Z1j:Un K 64 (.c .snil)=true:=by kernel_rfl
theorem Z24:Lf (J5 [])=some []:=rfl
theorem Z1n:Xd []=some []:=rfl
attribute [go_sem] Z29 Z1j Z24 Z1n
theorem Zr3 (E:Task→Option Out) (ts:Zx) (h:Go.Ev.H) (t:TypeId) (x:Operand):Uq K E ts h (.range t x)=(match Df K t with|some _=>Zcj h (Z4 K ts x)|none=>none):=rfl
theorem Zt9 (E:Task→Option Out) (ts:Zx) (h:Go.Ev.H) (x:Operand):Uq K E ts h (.next x false)=Zee h (Zd5 h (Z4 K ts x)):=rfl
attribute [go_sem] Zr3 Zt9 Zcj Zee Zd5
noncomputable def x00:Kn:=fun _ _ _=>none
theorem Zxq:Zig K Tryz.prog x00:=fun _ _ _ _ _ e=>by cases e
section
variable (Hh:Hearts K Tryz.prog)
include Hh
theorem Zvh {args:List W} {h h':Go.Ev.H} {v:V} (e:Zqg args h=some (v,h')):Ze K Tryz.prog 144 args h v h':=by
 unfold Zqg at e
 split at e
 ·cases e
  exact Ze.closed fits Hh Zxq gl (n:=1000) (by kernel_rfl) rfl rfl h
 ·cases e
theorem Znf {args:List W} {h h':Go.Ev.H} {v:V} (e:Zzt args h=some (v,h')):Ze K Tryz.prog 25 args h v h':=by
 unfold Zzt at e
 split at e
 ·obtain⟨n,hn,e⟩:=Zo e
  obtain⟨b,e⟩:=Zv.1 e
  obtain rfl:=of_decide_eq_true b
  cases e
  rcases Zbf hn with ⟨rfl,rfl⟩|⟨rfl,rfl⟩|⟨rfl,rfl⟩
  all_goals exact Ze.closed fits Hh Zxq gl (n:=1000) (by kernel_rfl) rfl rfl h
 ·cases e
theorem Zhl {f:FuncId} {args:List W} {h h':Go.Ev.H} {v:V} (e:Ec K E0 f args h=some (.val v h')):Ze K Tryz.prog f args h v h':=by
 have T:=Lg (P:=Tryz.prog) fits Hh Zc (Qw fits Zc)
 exact T.call f args h v h' e
theorem Zp5 {args:List W} {h h':Go.Ev.H} {v:V} (e:Zl8 args h=some (v,h')):Ze K Tryz.prog 145 args h v h':=by
 refine Zhl Hh ?_
 have e1:Ec K E0 145 args h=Mo K h args:=by kernel_rfl
 rw[e1]
 unfold Zl8 at e
 split at e
 ·rename_i g a
  obtain⟨b,e⟩:=Zv.1 e
  split at e
  ·rename_i n ro hg
   obtain⟨b1,e⟩:=Zv.1 e
   obtain rfl:=Nat.eq_of_beq_eq_true b1
   obtain⟨l,hl,e⟩:=Zo e
   have hl:=getM_some hl
   have r1:read1 1 [[C.map n]] 0=some (.map n):=rfl
   simp only[Mo,b,cond_true,hg,r1,Zbj,hl]
   split at e
   ·rename_i hk
    cases e
    rw[hk]
    rfl
   ·rename_i k ks hk
    obtain⟨b2,e⟩:=Zv.1 e
    cases e
    rw[hk]
    show (bif Nat.ble (k :: ks).length 1000000 then _ else none)=_
    rw[b2]
    rfl
   ·cases e
  ·cases e
 ·cases e
theorem Zia {args:List W} {h h':Go.Ev.H} {v:V} (e:Zlt args h=some (v,h')):Ze K Tryz.prog 125 args h v h':=by
 unfold Zlt at e
 split at e
 ·split at e
  ·rename_i es he
   cases e
   refine Zhl Hh ?_
   have e1:∀ args,Ec K E0 125 args h=L8 h args:=fun args=>by kernel_rfl
   rw[e1]
   simp only[L8,he]
  ·cases e
 ·cases e
theorem Zhv {args:List W} {h h':Go.Ev.H} {v:V} (e:Zma args h=some (v,h')):Ze K Tryz.prog 126 args h v h':=by
 unfold Zma at e
 split at e
 ·split at e
  ·rename_i es he
   cases e
   refine Zhl Hh ?_
   have e1:∀ args,Ec K E0 126 args h=L8 h args:=fun args=>by kernel_rfl
   rw[e1]
   simp only[L8,he]
  ·cases e
 ·cases e
theorem Zuf {args:List W} {h h':Go.Ev.H} {v:V} (e:Zq9 args h=some (v,h')):Ze K Tryz.prog 146 args h v h':=by
 unfold Zq9 at e
 split at e
 ·cases e
  refine Ze.goes fits Hh (by kernel_rfl) (by kernel_rfl) (by kernel_rfl) (show Tryz.f146.body=some _ from rfl) rfl ?_
  repeat (first|apply Goes.seq|apply Goes.block|apply Goes.loop|apply Goes.skip|apply Goes.exit|apply Goes.ret|((first|apply Goes.Zr|apply Goes.ops2 fits Hh Zc); · simp (maxSteps:=9^6) +decide (disch:=first|omega|(simp only[lens]<;>omega)|decide) only [go_sem,Zf,Za,simprocAttr,Zw]<;>rfl))
  simp (maxSteps:=9^6) +decide (disch:=first|omega|(simp only[lens]<;>omega)|decide) only [go_sem,Zf,Za,simprocAttr]<;>rfl
 ·cases e
theorem Zft {args:List W} {h h':Go.Ev.H} {v:V} (e:Z32 args h=some (v,h')):Ze K Tryz.prog 118 args h v h':=by
 unfold Z32 at e
 split at e
 ·rename_i r q
  obtain⟨m,hr,e⟩:=Zo e
  have hr:=O7 hr
  obtain⟨b,e⟩:=Zv.1 e
  have hm:=Jk b
  cases e
  refine Ze.tidy ⟨Tryz.f118,Tryz.func118,by kernel_rfl,by decide⟩ fun tidy=>?_
  have l1:=tidy _ _ hr
  have l2:=tidy _ _ hm
  obtain⟨v,h',cc,rfl,hk⟩:∃ v h',Ze K Tryz.prog 118 [.c (.ptr r 0),.c (.int .u32 q)] h v h'∧v=.w (.c .snil)∧∀ j,j<h.next→h'.get j=h.get j:=by
   refine Ze.Z8 fits Hh (by kernel_rfl) (by kernel_rfl) (by kernel_rfl) (show Tryz.f118.body=some _ from rfl) rfl ?_
   repeat (first|apply Goes.seq|apply Goes.block|apply Goes.loop|apply Goes.skip|apply Goes.exit|apply Goes.ret|((first|apply Goes.Zr|apply Goes.ops2 fits Hh (Zh (Zh Zc (fun _ _ _ _=>Zjs Hh)) (fun _ _ _ _=>Zvh Hh))); · simp (maxSteps:=9^6) +decide (disch:=first|omega|(simp only[lens]<;>omega)|decide) only [go_sem,Zf,Za,simprocAttr,hr,hm,read1,Zcj,Zee,Zd5]<;>rfl))
   exact⟨_,_,(by simp (maxSteps:=9^6) +decide (disch:=first|omega|(simp only[lens]<;>omega)|decide) only [go_sem,Zf,Za,simprocAttr]<;>rfl),rfl,fun j hj=>by (first|(simp (discharger:=omega) only [H.get_put,H.Zi,H.Zm,H.Zd,H.Zg,H.Zj,if_neg]; done)|(simp only[H.get_put,H.Zi,H.Zm,H.Zd,H.Zg,H.Zj]; (repeat' split)<;>first|rfl|(exfalso; omega)|omega))⟩
  exact cc.quiet rfl hk
 ·cases e
theorem Zlg {args:List W} {h h':Go.Ev.H} {v:V} (e:Zec args h=some (v,h')):Ze K Tryz.prog 75 args h v h':=by
 unfold Zec at e
 split at e
 ·rename_i t
  obtain⟨X,ht,e⟩:=Zo e
  have ht:=Jj ht
  obtain⟨m,hr,e⟩:=Zo e
  have hr:=O7 hr
  obtain⟨b,e⟩:=Zv.1 e
  have hm:=Jk b
  cases e
  refine Ze.goes fits Hh (by kernel_rfl) (by kernel_rfl) (by kernel_rfl) (show Tryz.f75.body=some _ from rfl) rfl ?_
  repeat (first|apply Goes.seq|apply Goes.block|apply Goes.loop|apply Goes.skip|apply Goes.exit|apply Goes.ret|((first|apply Goes.Zr|apply Goes.ops2 fits Hh (Zh (Zh Zc (fun _ _ _ _=>Da Hh)) (fun _ _ _ _=>Zft Hh))); · simp (maxSteps:=9^6) +decide (disch:=first|omega|(simp only[lens]<;>omega)|decide) only [go_sem,Zf,Za,simprocAttr,ht,hr,hm,read1]<;>rfl)|(apply Goes.drawn2 fits Hh (Zh (Zh Zc (fun _ _ _ _=>Da Hh)) (fun _ _ _ _=>Zft Hh)) (by kernel_rfl); · simp (maxSteps:=9^6) +decide (disch:=first|omega|(simp only[lens]<;>omega)|decide) only [go_sem,Zf,Za,simprocAttr,Js,Y2,Jd,Jo,Yv,Jp,Jf,Ye,Ja,Jr,Ux,Jg,Ya,Ym,Yh,Yg,Je,Yt,Y0,Yd,Yu,Jb,Oy,U8,Oj,Ee,Ep,Ue,Ug,Jn,Om,Uj,Ur,Jq,Y1,Uo,looks,O5,Op.operands,Call.operands,kd,Ud,List.filterMap_cons,List.filterMap_nil,List.append_nil,List.nil_append,List.cons_append,Ji,stable,Jl,J4,Jt,waits,Yr,List.all_cons,List.all_nil,List.any_cons,List.any_nil,Region.binds,Bool.or_true,Bool.true_or,Bool.and_true,Bool.true_and,Bool.or_false,Bool.false_or,Bool.and_self,Bool.or_self,Jc,Nat.le_refl,Nat.le_add_right,List.map_cons,Array.toList_append,ht,hr,hm,read1]<;>rfl))
  simp (maxSteps:=9^6) +decide (disch:=first|omega|(simp only[lens]<;>omega)|decide) only [go_sem,Zf,Za,simprocAttr]<;>rfl
 ·cases e
theorem Zyi {args:List W} {h h':Go.Ev.H} {v:V} (e:Zzu args h=some (v,h')):Ze K Tryz.prog 119 args h v h':=by
 unfold Zzu at e
 split at e
 ·rename_i m
  obtain⟨b,e⟩:=Zv.1 e
  have hm:=Jk b
  cases e
  refine Ze.tidy ⟨Tryz.f119,Tryz.func119,by kernel_rfl,by decide⟩ fun tidy=>?_
  have l2:=tidy _ _ hm
  obtain⟨v,h',cc,rfl,hk⟩:∃ v h',Ze K Tryz.prog 119 [.c (.map m)] h v h'∧v=.w (.c .snil)∧∀ j,j<h.next→h'.get j=h.get j:=by
   refine Ze.Z8 fits Hh (by kernel_rfl) (by kernel_rfl) (by kernel_rfl) (show Tryz.f119.body=some _ from rfl) rfl ?_
   repeat (first|apply Goes.seq|apply Goes.block|apply Goes.loop|apply Goes.skip|apply Goes.exit|apply Goes.ret|((first|apply Goes.Zr|apply Goes.ops2 fits Hh (Zh (Zh Zc (fun _ _ _ _=>Zuf Hh)) (fun _ _ _ _=>Zp5 Hh))); · simp (maxSteps:=9^6) +decide (disch:=first|omega|(simp only[lens]<;>omega)|decide) only [go_sem,Zf,Za,simprocAttr,hm,read1]<;>rfl))
   exact⟨_,_,(by simp (maxSteps:=9^6) +decide (disch:=first|omega|(simp only[lens]<;>omega)|decide) only [go_sem,Zf,Za,simprocAttr]<;>rfl),rfl,fun j hj=>by (first|(simp (discharger:=omega) only [H.get_put,H.Zi,H.Zm,H.Zd,H.Zg,H.Zj,if_neg]; done)|(simp only[H.get_put,H.Zi,H.Zm,H.Zd,H.Zg,H.Zj]; (repeat' split)<;>first|rfl|(exfalso; omega)|omega))⟩
  exact cc.quiet rfl hk
 ·cases e
theorem Zk7 {args:List W} {h h':Go.Ev.H} {v:V} (e:Zdt args h=some (v,h')):Ze K Tryz.prog 76 args h v h':=by
 unfold Zdt at e
 split at e
 ·rename_i t
  obtain⟨X,ht,e⟩:=Zo e
  have ht:=Jj ht
  obtain⟨b,e⟩:=Zv.1 e
  have hm:=Jk b
  cases e
  refine Ze.goes fits Hh (by kernel_rfl) (by kernel_rfl) (by kernel_rfl) (show Tryz.f76.body=some _ from rfl) rfl ?_
  repeat (first|apply Goes.seq|apply Goes.block|apply Goes.loop|apply Goes.skip|apply Goes.exit|apply Goes.ret|((first|apply Goes.Zr|apply Goes.ops2 fits Hh (Zh (Zh Zc (fun _ _ _ _=>Da Hh)) (fun _ _ _ _=>Zyi Hh))); · simp (maxSteps:=9^6) +decide (disch:=first|omega|(simp only[lens]<;>omega)|decide) only [go_sem,Zf,Za,simprocAttr,ht,hm,read1]<;>rfl))
  simp (maxSteps:=9^6) +decide (disch:=first|omega|(simp only[lens]<;>omega)|decide) only [go_sem,Zf,Za,simprocAttr]<;>rfl
 ·cases e
theorem Zy5 {args:List W} {h h':Go.Ev.H} {v:V} (e:Zyl args h=some (v,h')):Ze K Tryz.prog 26 args h v h':=by
 unfold Zyl at e
 split at e
 ·rename_i s a b
  obtain⟨S,hs,e⟩:=Zo e
  have hs:=Ob hs
  obtain⟨X,ht,e⟩:=Zo e
  have ht:=Jj ht
  obtain⟨m,hr,e⟩:=Zo e
  have hr:=O7 hr
  obtain⟨n,hn,e⟩:=Zo e
  obtain⟨b,e⟩:=Zv.1 e
  cases e
  simp only[Bool.and_eq_true,decide_eq_true_eq] at b
  obtain⟨⟨b1,b2⟩,rfl⟩:=b
  have hm:=Jk b1
  have hc:=Jk b2
  have a0:0≤a∧a≤33:=by rcases Zbf hn with ⟨rfl,_⟩|⟨rfl,_⟩|⟨rfl,_⟩<;>omega
  refine Ze.goes fits Hh (by kernel_rfl) (by kernel_rfl) (by kernel_rfl) (show Tryz.f26.body=some _ from rfl) rfl ?_
  repeat (first|apply Goes.seq|apply Goes.block|apply Goes.loop|apply Goes.skip|apply Goes.exit|apply Goes.ret|((first|apply Goes.Zr|apply Goes.ops2 fits Hh (Zh (Zh (Zh Zc (fun _ _ _ _=>Zlg Hh)) (fun _ _ _ _=>Zk7 Hh)) (fun _ _ _ _=>Znf Hh))); · simp (maxSteps:=9^6) +decide (disch:=first|omega|(simp only[lens]<;>omega)|decide) only [go_sem,Zf,Za,simprocAttr,hs,ht,hr,hm,hc,hn,Int.zero_add,read1,Zt,Y8]<;>rfl))
  simp (maxSteps:=9^6) +decide (disch:=first|omega|(simp only[lens]<;>omega)|decide) only [go_sem,Zf,Za,simprocAttr]<;>rfl
 ·cases e
end
end Go.Proofs.YtngejdlimkgjfaaGreatDoor
set_option maxRecDepth 100000
set_option maxHeartbeats 4000000
namespace Go.Proofs.YtngejdlimkgjfaaGreatDoor
open Go.Ev
noncomputable def q8 (p:List Nat):Code:=piece p (Yc Tryz.f8)
theorem rs81:Tryz.f81.results.toList=[.cell 4 139]:=rfl
theorem rs29:Tryz.f29.results.toList=[.tmp 6]:=rfl
theorem rs8:Tryz.f8.results.toList=[.tmp 6]:=rfl
attribute [go_sem] rs81 rs29 rs8
noncomputable def Em (h:Go.Ev.H):Go.Ev.H:=((((((h.new (.row 4 [[.mnil,.mnil,.mnil,.pnil]] false)).new (.map [])).new (.row 1 [[.map (h.next+1)]] false)).new (.map [])).new (.map [])).new (.map [])).put h.next (.row 4 [[.map (h.next+1+1+1),.map (h.next+1+1+1+1),.map (h.next+1+1+1+1+1),.ptr (h.next+1+1) 0]] false)
noncomputable def Zrv:Kn1:=fun args h=>match args with
 | [.c (.ptr t 0),.c (.int .u32 _)]=>(Bi h t).bind fun X=>(Tn h X.rv).bind fun m=>Y9 (Dt h m&&Dt h X.ch&&Dt h X.od&&Dt h X.fr) (some (.w (.g [.map (h.next+1+1+1),.map (h.next+1+1+1+1),.map (h.next+1+1+1+1+1),.ptr (h.next+1+1) 0]),Em h))
 | _=>none
noncomputable def Zbw (h:Go.Ev.H) (t:Nat) (X:Tx) (c r:Int):Go.Ev.H :=
 (Em ((((((h.put t (.row 13 [txL { X with op:=true }] false)).put t (.row 13 [txL { X with op:=true,cr:=c }] false)).put t (.row 13 [txL { X with op:=true,cr:=c,rk:=r }] false)).new (.map [])).put t (.row 13 [txL { X with op:=true,cr:=c,rk:=r,to:=.map h.next }] false)))).put t (.row 13 [txL { X with op:=true,cr:=c,rk:=r,to:=.map h.next,b1:=.map (h.next+1+1+1+1),b2:=.map (h.next+1+1+1+1+1),b3:=.map (h.next+1+1+1+1+1+1),b4:=.ptr (h.next+1+1+1) 0 }] false)
noncomputable def Zlq:Kn1:=fun args h=>match args with
 | [.c (.ptr t 0),.c (.int .i64 c),.c (.int .i64 r)]=>(Bi h t).bind fun X=>(Tn h X.rv).bind fun m=>Y9 (!X.op&&decide (0≤c)&&decide (0≤r)&&Dt h m&&Dt h X.ch&&Dt h X.od&&Dt h X.fr) (some (.w (.c (.int .i64 0)),Zbw h t X c r))
 | _=>none
noncomputable def Oc (h:Go.Ev.H) (s:Nat) (S:Stt):Go.Ev.H:=((((h.new (.map [])).put s (.row 8 [stL { S with dt:=h.next }] false)).new (.map [])).put s (.row 8 [stL { S with dt:=h.next,gv:=h.next+1 }] false)).put s (.row 8 [stL { S with dt:=h.next,gv:=h.next+1,kn:=false }] false)
noncomputable def Qz:Kn1:=fun args h=>match args with
 | [.c (.ptr s 0),.c (.int .i64 c),.c (.int .i64 r)]=>(M3 h s).bind fun S=>(Bi h S.tx).bind fun X=>(Xq h S.gd).bind fun _=>(Tn h X.rv).bind fun m=>(Zjn c).bind fun _=>Y9 (decide (r=0)&&!X.op&&decide (X.sq≤2147483648)&&Dt h m&&Dt h X.ch&&Dt h X.od&&Dt h X.fr) (some (.w (.c (.int .i64 0)),Zbw (Oc h s S) S.tx X c 0))
 | _=>none
attribute [go_sem] Zrv Zlq Qz
theorem Zz1:Un K 64 (.c .snil)=true:=by kernel_rfl
attribute [go_sem] Zz1
section
variable (Hh:Hearts K Tryz.prog)
include Hh
theorem Zj1 {args:List W} {h h':Go.Ev.H} {v:V} (e:Zrv args h=some (v,h')):Ze K Tryz.prog 81 args h v h':=by
 unfold Zrv at e
 split at e
 ·rename_i t q
  obtain⟨X,ht,e⟩:=Zo e
  have ht:=Jj ht
  obtain⟨m,hr,e⟩:=Zo e
  have hr:=O7 hr
  obtain⟨b,e⟩:=Zv.1 e
  cases e
  simp only[Bool.and_eq_true] at b
  obtain⟨⟨⟨b1,b2⟩,b3⟩,b4⟩:=b
  have hm:=Jk b1
  have hc:=Jk b2
  have ho:=Jk b3
  have hf:=Jk b4
  refine Ze.tidy ⟨Tryz.f81,Tryz.func81,by kernel_rfl,by decide⟩ fun tidy=>?_
  have l1:=tidy _ _ ht
  have l2:=tidy _ _ hr
  have l3:=tidy _ _ hm
  have l4:=tidy _ _ hc
  have l5:=tidy _ _ ho
  have l6:=tidy _ _ hf
  refine Ze.goes fits Hh (by kernel_rfl) (by kernel_rfl) (by kernel_rfl) (show Tryz.f81.body=some _ from rfl) rfl ?_
  repeat (first|apply Goes.seq|apply Goes.block|apply Goes.loop|apply Goes.skip|apply Goes.exit|apply Goes.ret|((first|apply Goes.Zr|apply Goes.ops2 fits Hh (Zh (Zh (Zh (Zh Zc (fun _ _ _ _=>Zd1 Hh)) (fun _ _ _ _=>Zft Hh)) (fun _ _ _ _=>Zia Hh)) (fun _ _ _ _=>Zhv Hh))); · simp (maxSteps:=9^6) +decide (disch:=first|omega|(simp only[lens]<;>omega)|decide) only [go_sem,Zf,Za,simprocAttr,ht,hr,hm,hc,ho,hf,read1,Zt,Y8,Z5]<;>rfl)|(apply Goes.drawn2 fits Hh (Zh (Zh (Zh (Zh Zc (fun _ _ _ _=>Zd1 Hh)) (fun _ _ _ _=>Zft Hh)) (fun _ _ _ _=>Zia Hh)) (fun _ _ _ _=>Zhv Hh)) (by kernel_rfl); · simp (maxSteps:=9^6) +decide (disch:=first|omega|(simp only[lens]<;>omega)|decide) only [go_sem,Zf,Za,simprocAttr,Js,Y2,Jd,Jo,Yv,Jp,Jf,Ye,Ja,Jr,Ux,Jg,Ya,Ym,Yh,Yg,Je,Yt,Y0,Yd,Yu,Jb,Oy,U8,Oj,Ee,Ep,Ue,Ug,Jn,Om,Uj,Ur,Jq,Y1,Uo,looks,O5,Op.operands,Call.operands,kd,Ud,List.filterMap_cons,List.filterMap_nil,List.append_nil,List.nil_append,List.cons_append,Ji,stable,Jl,J4,Jt,waits,Yr,List.all_cons,List.all_nil,List.any_cons,List.any_nil,Region.binds,Bool.or_true,Bool.true_or,Bool.and_true,Bool.true_and,Bool.or_false,Bool.false_or,Bool.and_self,Bool.or_self,Jc,Nat.le_refl,Nat.le_add_right,List.map_cons,Array.toList_append,ht,hr,hm,hc,ho,hf,read1,Zt,Y8,Z5]<;>rfl))
  simp (maxSteps:=9^6) +decide (disch:=first|omega|(simp only[lens]<;>omega)|decide) only [go_sem,Zf,Za,simprocAttr,Em]<;>rfl
 ·cases e
set_option maxHeartbeats 1000000 in
theorem Zpk {args:List W} {h h':Go.Ev.H} {v:V} (e:Zlq args h=some (v,h')):Ze K Tryz.prog 29 args h v h':=by
 unfold Zlq at e
 split at e
 ·rename_i t c r
  obtain⟨X,ht,e⟩:=Zo e
  have ht:=Jj ht
  obtain⟨m,hr,e⟩:=Zo e
  have hr:=O7 hr
  obtain⟨b,e⟩:=Zv.1 e
  cases e
  simp only[Bool.and_eq_true,decide_eq_true_eq,Bool.not_eq_true'] at b
  obtain⟨⟨⟨⟨⟨⟨bo,c0⟩,r0⟩,b1⟩,b2⟩,b3⟩,b4⟩:=b
  have hm:=Jk b1
  have hc:=Jk b2
  have ho:=Jk b3
  have hf:=Jk b4
  refine Ze.tidy ⟨Tryz.f29,Tryz.func29,by kernel_rfl,by decide⟩ fun tidy=>?_
  have l1:=tidy _ _ ht
  have l2:=tidy _ _ hr
  have l3:=tidy _ _ hm
  have l4:=tidy _ _ hc
  have l5:=tidy _ _ ho
  have l6:=tidy _ _ hf
  have n2:X.rv≠t:=fun e1=>by rw[e1,ht] at hr; cases hr
  have n3:m≠t:=fun e1=>by rw[e1,ht] at hm; cases hm
  have n4:X.ch≠t:=fun e1=>by rw[e1,ht] at hc; cases hc
  have n5:X.od≠t:=fun e1=>by rw[e1,ht] at ho; cases ho
  have n6:X.fr≠t:=fun e1=>by rw[e1,ht] at hf; cases hf
  refine Ze.goes fits Hh (by kernel_rfl) (by kernel_rfl) (by kernel_rfl) (show Tryz.f29.body=some _ from rfl) rfl ?_
  repeat (first|apply Goes.seq|apply Goes.block|apply Goes.loop|apply Goes.skip|apply Goes.exit|apply Goes.ret|((first|apply Goes.Zr|apply Goes.ops2 fits Hh (Zh (Zh Zc (fun _ _ _ _=>Da Hh)) (fun _ _ _ _=>Zj1 Hh))); · simp (maxSteps:=9^6) +decide (disch:=first|omega|(simp only[lens]<;>omega)|decide) only [go_sem,Zf,Za,simprocAttr,ht,bo,hr,hm,hc,ho,hf,read1,Z5,Em]<;>rfl)|(apply Goes.drawn2 fits Hh (Zh (Zh Zc (fun _ _ _ _=>Da Hh)) (fun _ _ _ _=>Zj1 Hh)) (by kernel_rfl); · simp (maxSteps:=9^6) +decide (disch:=first|omega|(simp only[lens]<;>omega)|decide) only [go_sem,Zf,Za,simprocAttr,Js,Y2,Jd,Jo,Yv,Jp,Jf,Ye,Ja,Jr,Ux,Jg,Ya,Ym,Yh,Yg,Je,Yt,Y0,Yd,Yu,Jb,Oy,U8,Oj,Ee,Ep,Ue,Ug,Jn,Om,Uj,Ur,Jq,Y1,Uo,looks,O5,Op.operands,Call.operands,kd,Ud,List.filterMap_cons,List.filterMap_nil,List.append_nil,List.nil_append,List.cons_append,Ji,stable,Jl,J4,Jt,waits,Yr,List.all_cons,List.all_nil,List.any_cons,List.any_nil,Region.binds,Bool.or_true,Bool.true_or,Bool.and_true,Bool.true_and,Bool.or_false,Bool.false_or,Bool.and_self,Bool.or_self,Jc,Nat.le_refl,Nat.le_add_right,List.map_cons,Array.toList_append,ht,bo,hr,hm,hc,ho,hf,read1,Z5,Em]<;>rfl))
  simp (maxSteps:=9^6) +decide (disch:=first|omega|(simp only[lens]<;>omega)|decide) only [go_sem,Zf,Za,simprocAttr,Zbw,Em]<;>rfl
 ·cases e
end
end Go.Proofs.YtngejdlimkgjfaaGreatDoor
set_option maxRecDepth 100000
set_option maxHeartbeats 4000000
namespace Go.Proofs.YtngejdlimkgjfaaGreatDoor
open Go.Ev
section
variable (Hh:Hearts K Tryz.prog)
include Hh
set_option maxHeartbeats 4000000 in
theorem Zqs {args:List W} {h h':Go.Ev.H} {v:V} (e:Qz args h=some (v,h')):Ze K Tryz.prog 8 args h v h':=by
 unfold Qz at e
 split at e
 ·rename_i s c r
  obtain⟨S,hs,e⟩:=Zo e
  have hs:=Ob hs
  obtain⟨X,ht,e⟩:=Zo e
  have ht:=Jj ht
  obtain⟨G,hg,e⟩:=Zo e
  obtain⟨hg,fb⟩:=Bq hg
  obtain⟨m,hr,e⟩:=Zo e
  have hr:=O7 hr
  obtain⟨n,hn,e⟩:=Zo e
  obtain⟨b,e⟩:=Zv.1 e
  cases e
  simp only[Bool.and_eq_true,decide_eq_true_eq,Bool.not_eq_true'] at b
  obtain⟨⟨⟨⟨⟨⟨rfl,bo⟩,sq⟩,b1⟩,b2⟩,b3⟩,b4⟩:=b
  have hm:=Jk b1
  have hc:=Jk b2
  have ho:=Jk b3
  have hf:=Jk b4
  have F:=Z0 fb
  obtain⟨g1,g2,g3,g4,g5,g6,g7,g8,g9,g10,g11⟩:=F
  refine Ze.tidy ⟨Tryz.f8,Tryz.func8,by kernel_rfl,by decide⟩ fun tidy=>?_
  have l1:=tidy _ _ ht
  have l2:=tidy _ _ hr
  have l3:=tidy _ _ hm
  have l4:=tidy _ _ hc
  have l5:=tidy _ _ ho
  have l6:=tidy _ _ hf
  have l7:=tidy _ _ hs
  have l8:=tidy _ _ hg
  have n1:S.tx≠s:=fun e1=>by rw[e1,hs] at ht; cases ht
  have n2:X.rv≠s:=fun e1=>by rw[e1,hs] at hr; cases hr
  have n3:m≠s:=fun e1=>by rw[e1,hs] at hm; cases hm
  have n4:X.ch≠s:=fun e1=>by rw[e1,hs] at hc; cases hc
  have n5:X.od≠s:=fun e1=>by rw[e1,hs] at ho; cases ho
  have n6:X.fr≠s:=fun e1=>by rw[e1,hs] at hf; cases hf
  have a0:0≤c∧c≤33∧5≤n∧n≤36:=by rcases Zbf hn with ⟨rfl,rfl⟩|⟨rfl,rfl⟩|⟨rfl,rfl⟩<;>omega
  refine Ze.goes fits Hh (by kernel_rfl) (by kernel_rfl) (by kernel_rfl) (show Tryz.f8.body=some _ from rfl) rfl ?_
  repeat (first|apply Goes.seq|apply Goes.block|apply Goes.loop|apply Goes.skip|apply Goes.exit|apply Goes.ret|((first|apply Goes.Zr|apply Goes.ops2 fits Hh (Zh (Zh (Zh (Zh (Zh (Zh (Zh Zc (fun _ _ _ _=>Gz Hh)) (fun _ _ _ _=>Zzc Hh)) (fun _ _ _ _=>Zdb Hh)) (fun _ _ _ _=>Znf Hh)) (fun _ _ _ _=>Zy5 Hh)) (fun _ _ _ _=>Du Hh)) (fun _ _ _ _=>Zpk Hh))); · simp (maxSteps:=9^6) +decide (disch:=first|omega|(simp only[lens]<;>omega)|decide) only [go_sem,Zf,Za,simprocAttr,hn,hs,ht,bo,hg,gdL,fb,hr,hm,hc,ho,hf,read1]<;>rfl))
  simp (maxSteps:=9^6) +decide (disch:=first|omega|(simp only[lens]<;>omega)|decide) only [go_sem,Zf,Za,simprocAttr,Oc]<;>rfl
 ·cases e
end
end Go.Proofs.YtngejdlimkgjfaaGreatDoor
