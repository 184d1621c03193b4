/- What Begin asks: revoked and changed blocks, if there are none; need. -/
import Derived.Test.YtmdibcklpmeleaaGreatDoorNew2
set_option linter.unusedSimpArgs false
set_option linter.unusedVariables false
set_option linter.unusedSectionVars false
set_option maxRecDepth 100000
set_option maxHeartbeats 4000000
namespace Go.Proofs.YtmdibcklpmeleaaGreatDoor
open Go.Ev
theorem rs106:Tryz.f106.results.toList=[.tmp 4]:=rfl
theorem rs67:Tryz.f67.results.toList=[.tmp 2]:=rfl
theorem rs68:Tryz.f68.results.toList=[.tmp 2]:=rfl
theorem rs136:Tryz.f136.results.toList=[.tmp 2]:=rfl
theorem rs107:Tryz.f107.results.toList=[.tmp 2]:=rfl
theorem rs22:Tryz.f22.results.toList=[.tmp 6,.tmp 7]:=rfl
attribute [go_sem] rs106 rs67 rs68 rs136 rs107 rs22
noncomputable def Zw8:Kn1:=fun args h=>match args with
 | [.c .snil]=>some (.tup [],h)
 | _=>none
noncomputable def Ydw:Kn1:=fun args h=>match args with
 | [.c (.ptr r 0),.c (.int .u32 _)]=>(Vi h r).bind fun m=>Y2 (Eg h m) (some (.w (.c .snil),h))
 | _=>none
noncomputable def Zf0:Kn1:=fun args h=>match args with
 | [.c (.ptr t 0)]=>(Gw h t).bind fun X=>(Vi h X.rv).bind fun m=>Y2 (Eg h m) (some (.w (.c .snil),h))
 | _=>none
noncomputable def Zfv:Kn1:=fun args h=>match args with
 | [.c (.ptr t 0)]=>(Gw h t).bind fun X=>Y2 (Eg h X.ch) (some (.w (.c .snil),h))
 | _=>none
noncomputable def Zxo:Kn1:=fun args h=>match args with
 | [.c (.map m)]=>some (.w (.c (.fn 165 [] [some (h.next,0)])),h.new (.row 1 [[.map m]] false))
 | _=>none
noncomputable def Zqi:Kn1:=fun args h=>match args with
 | [.c (.fn g [] [some (a,0)])]=>Y2 (K.keys.contains g) (match h.get a with
  | some (.row sz [[.map n]] _)=>Y2 (Nat.beq sz 1) ((getM h n).bind fun l=>match Ma (Uf l) with
   | some []=>some (.w (.c .snil),h)
   | some (k :: ks)=>Y2 (Nat.ble (k :: ks).length 1000000) (some (.w (.c (.slice h.next 0 (k :: ks).length 1)),h.new (.row 1 ((k :: ks).map fun i=>[.int .i64 i]) false)))
   | none=>none)
  | _=>none)
 | _=>none
noncomputable def Z52:Kn1:=fun args h=>match args with
 | [.c (.map m)]=>Y2 (Eg h m) (some (.w (.c .snil),h))
 | _=>none
def Zn8 (a:Int):Option Int:=bif decide (a=33) then some 36 else bif decide (a=3) then some 5 else bif decide (a=9) then some 11 else none
theorem Zc4 {a n:Int} (e:Zn8 a=some n):(a=33∧n=36)∨(a=3∧n=5)∨(a=9∧n=11):=by
 unfold Zn8 at e
 by_cases h1:a=33
 ·subst h1; cases e; exact .inl ⟨rfl,rfl⟩
 ·by_cases h2:a=3
  ·subst h2; cases e; exact .inr (.inl ⟨rfl,rfl⟩)
  ·by_cases h3:a=9
   ·subst h3; cases e; exact .inr (.inr ⟨rfl,rfl⟩)
   ·rw[decide_eq_false h1,decide_eq_false h2,decide_eq_false h3] at e; cases e
noncomputable def Z7k:Kn1:=fun args h=>match args with
 | [.c (.int .i64 a),.c (.int .i64 b)]=>(Zn8 a).bind fun n=>Y2 (decide (b=0)) (some (.w (.c (.int .i64 n)),h))
 | _=>none
noncomputable def Z51:Kn1:=fun args h=>match args with
 | [.c (.ptr s 0),.c (.int .i64 a),.c (.int .i64 b)]=>(Nr h s).bind fun S=>(Gw h S.tx).bind fun X=>(Vi h X.rv).bind fun m=>(Zn8 a).bind fun n=>Y2 (Eg h m&&Eg h X.ch&&decide (b=0)) (some (.tup [.c (.int .i64 n),.c (.int .i64 0)],h))
 | _=>none
noncomputable def Zpg:Kn1:=fun args h=>match args with
 | [.c (.map m)]=>match h.get m with
  | some (.map es)=>some (.w (.c (.map h.next)),h.new (.map es))
  | _=>none
 | _=>none
noncomputable def Zp8:Kn1:=fun args h=>match args with
 | [.c (.map m)]=>match h.get m with
  | some (.map es)=>some (.w (.c (.map h.next)),h.new (.map es))
  | _=>none
 | _=>none
attribute [go_sem] Zw8 Ydw Zf0 Zfv Zxo Zqi Z52 Z7k Z51 Zpg Zp8
theorem Yfg:K.keys.contains 165=true:=by kernel_rfl
theorem Z9x:Ud K 61 (.c .snil)=true:=by kernel_rfl
theorem Yfc:Ma (Uf [])=some []:=rfl
theorem Yce:Qy []=some []:=rfl
attribute [go_sem] Yfg Z9x Yfc Yce
theorem Zvy (E:Task→Option Out) (ts:Zy) (h:Go.Ev.H) (t:TypeId) (x:Operand):J6 K E ts h (.range t x)=(match Db K t with|some _=>Za4 h (Z0 K ts x)|none=>none):=rfl
theorem Z1j (E:Task→Option Out) (ts:Zy) (h:Go.Ev.H) (x:Operand):J6 K E ts h (.next x false)=Zcx h (Zcp h (Z0 K ts x)):=rfl
attribute [go_sem] Zvy Z1j Za4 Zcx Zcp
noncomputable def x00:Kn:=fun _ _ _=>none
theorem Z5q:Zjp K Tryz.prog x00:=fun _ _ _ _ _ e=>by cases e
section
variable (Hh:Hearts K Tryz.prog)
include Hh
theorem Z3b {args:List W} {h h':Go.Ev.H} {v:V} (e:Zw8 args h=some (v,h')):Zd K Tryz.prog 134 args h v h':=by
 unfold Zw8 at e
 split at e
 ·cases e
  exact Zd.closed fits Hh Z5q gl (n:=1000) (by kernel_rfl) rfl rfl h
 ·cases e
theorem Ztw {args:List W} {h h':Go.Ev.H} {v:V} (e:Z7k args h=some (v,h')):Zd K Tryz.prog 21 args h v h':=by
 unfold Z7k at e
 split at e
 ·obtain⟨n,hn,e⟩:=Zo e
  obtain⟨b,e⟩:=Zu.1 e
  obtain rfl:=of_decide_eq_true b
  cases e
  rcases Zc4 hn with ⟨rfl,rfl⟩|⟨rfl,rfl⟩|⟨rfl,rfl⟩
  all_goals exact Zd.closed fits Hh Z5q gl (n:=1000) (by kernel_rfl) rfl rfl h
 ·cases e
theorem Zjj {f:FuncId} {args:List W} {h h':Go.Ev.H} {v:V} (e:Eu K E0 f args h=some (.val v h')):Zd K Tryz.prog f args h v h':=by
 have T:=Me (P:=Tryz.prog) fits Hh Zb (Za3 fits Zb)
 exact T.call f args h v h' e
theorem Zxx {args:List W} {h h':Go.Ev.H} {v:V} (e:Zqi args h=some (v,h')):Zd K Tryz.prog 135 args h v h':=by
 refine Zjj Hh ?_
 have e1:Eu K E0 135 args h=Ng K h args:=by kernel_rfl
 rw[e1]
 unfold Zqi at e
 split at e
 ·rename_i g a
  obtain⟨b,e⟩:=Zu.1 e
  split at e
  ·rename_i n ro hg
   obtain⟨b1,e⟩:=Zu.1 e
   obtain rfl:=Nat.eq_of_beq_eq_true b1
   obtain⟨l,hl,e⟩:=Zo e
   have hl:=getM_some hl
   have r1:read1 1 [[C.map n]] 0=some (.map n):=rfl
   simp only[Ng,b,cond_true,hg,r1,Ze3,hl]
   split at e
   ·rename_i hk
    cases e
    rw[hk]
    rfl
   ·rename_i k ks hk
    obtain⟨b2,e⟩:=Zu.1 e
    cases e
    rw[hk]
    show (bif Nat.ble (k :: ks).length 1000000 then _ else none)=_
    rw[b2]
    rfl
   ·cases e
  ·cases e
 ·cases e
theorem Zjn {args:List W} {h h':Go.Ev.H} {v:V} (e:Zpg args h=some (v,h')):Zd K Tryz.prog 113 args h v h':=by
 unfold Zpg at e
 split at e
 ·split at e
  ·rename_i es he
   cases e
   refine Zjj Hh ?_
   have e1:∀ args,Eu K E0 113 args h=Mv h args:=fun args=>by kernel_rfl
   rw[e1]
   simp only[Mv,he]
  ·cases e
 ·cases e
theorem Zjr {args:List W} {h h':Go.Ev.H} {v:V} (e:Zp8 args h=some (v,h')):Zd K Tryz.prog 114 args h v h':=by
 unfold Zp8 at e
 split at e
 ·split at e
  ·rename_i es he
   cases e
   refine Zjj Hh ?_
   have e1:∀ args,Eu K E0 114 args h=Mv h args:=fun args=>by kernel_rfl
   rw[e1]
   simp only[Mv,he]
  ·cases e
 ·cases e
theorem Z0k {args:List W} {h h':Go.Ev.H} {v:V} (e:Zxo args h=some (v,h')):Zd K Tryz.prog 136 args h v h':=by
 unfold Zxo at e
 split at e
 ·cases e
  refine Zd.goes fits Hh (by kernel_rfl) (by kernel_rfl) (by kernel_rfl) (show Tryz.f136.body=some _ from rfl) rfl ?_
  repeat (first
   | refine Goes.seq ?_
   | refine Goes.block ?_
   | refine Goes.loop ?_
   | refine Goes.skip ?_
   | refine Goes.exit ?_
   | refine Goes.ret ?_
   | refine Goes.Z4 (by simp (maxSteps:=9^6) +decide (disch:=first|omega|(simp only[lens]<;>omega)|decide) only [go_sem,Zc,Za,simprocAttr,Zn]<;>rfl) ?_
   | refine Goes.ops2 fits Hh Zb (by simp (maxSteps:=9^6) +decide (disch:=first|omega|(simp only[lens]<;>omega)|decide) only [go_sem,Zc,Za,simprocAttr,Zn]; rfl) ?_)
  simp (maxSteps:=9^6) +decide (disch:=first|omega|(simp only[lens]<;>omega)|decide) only [go_sem,Zc,Za,simprocAttr]<;>rfl
 ·cases e
theorem Ziw {args:List W} {h h':Go.Ev.H} {v:V} (e:Ydw args h=some (v,h')):Zd K Tryz.prog 106 args h v h':=by
 unfold Ydw at e
 split at e
 ·rename_i r q
  obtain⟨m,hr,e⟩:=Zo e
  have hr:=Oo hr
  obtain⟨b,e⟩:=Zu.1 e
  have hm:=Y7 b
  cases e
  refine Zd.tidy ⟨Tryz.f106,Tryz.func106,by kernel_rfl,by decide⟩ fun tidy=>?_
  have l1:=tidy _ _ hr
  have l2:=tidy _ _ hm
  obtain⟨v,h',cc,rfl,hk⟩:∃ v h',Zd K Tryz.prog 106 [.c (.ptr r 0),.c (.int .u32 q)] h v h'∧v=.w (.c .snil)∧∀ j,j<h.next→h'.get j=h.get j:=by
   refine Zd.Ya fits Hh (by kernel_rfl) (by kernel_rfl) (by kernel_rfl) (show Tryz.f106.body=some _ from rfl) rfl ?_
   repeat (first
    | refine Goes.seq ?_
    | refine Goes.block ?_
    | refine Goes.loop ?_
    | refine Goes.skip ?_
    | refine Goes.exit ?_
    | refine Goes.ret ?_
    | refine Goes.Z4 (by simp (maxSteps:=9^6) +decide (disch:=first|omega|(simp only[lens]<;>omega)|decide) only [go_sem,Zc,Za,simprocAttr,hr,hm,read1,Za4,Zcx,Zcp]<;>rfl) ?_
    | refine Goes.ops2 fits Hh (Zf (Zf Zb (fun _ _ _ _=>Zos Hh)) (fun _ _ _ _=>Z3b Hh)) (by simp (maxSteps:=9^6) +decide (disch:=first|omega|(simp only[lens]<;>omega)|decide) only [go_sem,Zc,Za,simprocAttr,hr,hm,read1,Za4,Zcx,Zcp]; rfl) ?_)
   exact⟨_,_,(by simp (maxSteps:=9^6) +decide (disch:=first|omega|(simp only[lens]<;>omega)|decide) only [go_sem,Zc,Za,simprocAttr]<;>rfl),rfl,fun j hj=>by (first|(simp (discharger:=omega) only [H.get_put,H.Zh,H.Zk,H.Ze,H.Zg,H.Zj,if_neg]; done)|(simp only[H.get_put,H.Zh,H.Zk,H.Ze,H.Zg,H.Zj]; (repeat' split)<;>first|rfl|(exfalso; omega)|omega))⟩
  exact cc.quiet rfl hk
 ·cases e
theorem Zpv {args:List W} {h h':Go.Ev.H} {v:V} (e:Zf0 args h=some (v,h')):Zd K Tryz.prog 67 args h v h':=by
 unfold Zf0 at e
 split at e
 ·rename_i t
  obtain⟨X,ht,e⟩:=Zo e
  have ht:=Y5 ht
  obtain⟨m,hr,e⟩:=Zo e
  have hr:=Oo hr
  obtain⟨b,e⟩:=Zu.1 e
  have hm:=Y7 b
  cases e
  refine Zd.goes fits Hh (by kernel_rfl) (by kernel_rfl) (by kernel_rfl) (show Tryz.f67.body=some _ from rfl) rfl ?_
  repeat (first
   | refine Goes.seq ?_
   | refine Goes.block ?_
   | refine Goes.loop ?_
   | refine Goes.skip ?_
   | refine Goes.exit ?_
   | refine Goes.ret ?_
   | refine Goes.Z4 (by simp (maxSteps:=9^6) +decide (disch:=first|omega|(simp only[lens]<;>omega)|decide) only [go_sem,Zc,Za,simprocAttr,ht,hr,hm,read1]<;>rfl) ?_
   | refine Goes.ops2 fits Hh (Zf (Zf Zb (fun _ _ _ _=>Bt Hh)) (fun _ _ _ _=>Ziw Hh)) (by simp (maxSteps:=9^6) +decide (disch:=first|omega|(simp only[lens]<;>omega)|decide) only [go_sem,Zc,Za,simprocAttr,ht,hr,hm,read1]; rfl) ?_
   | refine Goes.drawn2 fits Hh (Zf (Zf Zb (fun _ _ _ _=>Bt Hh)) (fun _ _ _ _=>Ziw Hh)) (by kernel_rfl) (by simp (maxSteps:=9^6) +decide (disch:=first|omega|(simp only[lens]<;>omega)|decide) only [go_sem,Zc,Za,simprocAttr,U2,Je,Ju,Ux,Y9,Uv,Jp,Yw,Jt,Uy,Gg,Jy,Yq,Y1,Yu,Yv,J2,Jb,Jf,Yx,Y8,Jz,Bh,O8,Gu,Rl,R8,Ot,Oj,Uh,G7,Oq,Oc,Uw,Jd,Uo,looks,En,Op.operands,Call.operands,kd,Ox,List.filterMap_cons,List.filterMap_nil,List.append_nil,List.nil_append,List.cons_append,Jk,stable,J5,Oa,Uu,waits,Ja,List.all_cons,List.all_nil,List.any_cons,List.any_nil,Region.binds,Bool.or_true,Bool.true_or,Bool.and_true,Bool.true_and,Bool.or_false,Bool.false_or,Bool.and_self,Bool.or_self,Jq,Nat.le_refl,Nat.le_add_right,List.map_cons,Array.toList_append,ht,hr,hm,read1]; rfl) ?_)
  simp (maxSteps:=9^6) +decide (disch:=first|omega|(simp only[lens]<;>omega)|decide) only [go_sem,Zc,Za,simprocAttr]<;>rfl
 ·cases e
theorem Z8i {args:List W} {h h':Go.Ev.H} {v:V} (e:Z52 args h=some (v,h')):Zd K Tryz.prog 107 args h v h':=by
 unfold Z52 at e
 split at e
 ·rename_i m
  obtain⟨b,e⟩:=Zu.1 e
  have hm:=Y7 b
  cases e
  refine Zd.tidy ⟨Tryz.f107,Tryz.func107,by kernel_rfl,by decide⟩ fun tidy=>?_
  have l2:=tidy _ _ hm
  obtain⟨v,h',cc,rfl,hk⟩:∃ v h',Zd K Tryz.prog 107 [.c (.map m)] h v h'∧v=.w (.c .snil)∧∀ j,j<h.next→h'.get j=h.get j:=by
   refine Zd.Ya fits Hh (by kernel_rfl) (by kernel_rfl) (by kernel_rfl) (show Tryz.f107.body=some _ from rfl) rfl ?_
   repeat (first
    | refine Goes.seq ?_
    | refine Goes.block ?_
    | refine Goes.loop ?_
    | refine Goes.skip ?_
    | refine Goes.exit ?_
    | refine Goes.ret ?_
    | refine Goes.Z4 (by simp (maxSteps:=9^6) +decide (disch:=first|omega|(simp only[lens]<;>omega)|decide) only [go_sem,Zc,Za,simprocAttr,hm,read1]<;>rfl) ?_
    | refine Goes.ops2 fits Hh (Zf (Zf Zb (fun _ _ _ _=>Z0k Hh)) (fun _ _ _ _=>Zxx Hh)) (by simp (maxSteps:=9^6) +decide (disch:=first|omega|(simp only[lens]<;>omega)|decide) only [go_sem,Zc,Za,simprocAttr,hm,read1]; rfl) ?_)
   exact⟨_,_,(by simp (maxSteps:=9^6) +decide (disch:=first|omega|(simp only[lens]<;>omega)|decide) only [go_sem,Zc,Za,simprocAttr]<;>rfl),rfl,fun j hj=>by (first|(simp (discharger:=omega) only [H.get_put,H.Zh,H.Zk,H.Ze,H.Zg,H.Zj,if_neg]; done)|(simp only[H.get_put,H.Zh,H.Zk,H.Ze,H.Zg,H.Zj]; (repeat' split)<;>first|rfl|(exfalso; omega)|omega))⟩
  exact cc.quiet rfl hk
 ·cases e
theorem Zqe {args:List W} {h h':Go.Ev.H} {v:V} (e:Zfv args h=some (v,h')):Zd K Tryz.prog 68 args h v h':=by
 unfold Zfv at e
 split at e
 ·rename_i t
  obtain⟨X,ht,e⟩:=Zo e
  have ht:=Y5 ht
  obtain⟨b,e⟩:=Zu.1 e
  have hm:=Y7 b
  cases e
  refine Zd.goes fits Hh (by kernel_rfl) (by kernel_rfl) (by kernel_rfl) (show Tryz.f68.body=some _ from rfl) rfl ?_
  repeat (first
   | refine Goes.seq ?_
   | refine Goes.block ?_
   | refine Goes.loop ?_
   | refine Goes.skip ?_
   | refine Goes.exit ?_
   | refine Goes.ret ?_
   | refine Goes.Z4 (by simp (maxSteps:=9^6) +decide (disch:=first|omega|(simp only[lens]<;>omega)|decide) only [go_sem,Zc,Za,simprocAttr,ht,hm,read1]<;>rfl) ?_
   | refine Goes.ops2 fits Hh (Zf (Zf Zb (fun _ _ _ _=>Bt Hh)) (fun _ _ _ _=>Z8i Hh)) (by simp (maxSteps:=9^6) +decide (disch:=first|omega|(simp only[lens]<;>omega)|decide) only [go_sem,Zc,Za,simprocAttr,ht,hm,read1]; rfl) ?_)
  simp (maxSteps:=9^6) +decide (disch:=first|omega|(simp only[lens]<;>omega)|decide) only [go_sem,Zc,Za,simprocAttr]<;>rfl
 ·cases e
theorem Z7p {args:List W} {h h':Go.Ev.H} {v:V} (e:Z51 args h=some (v,h')):Zd K Tryz.prog 22 args h v h':=by
 unfold Z51 at e
 split at e
 ·rename_i s a b
  obtain⟨S,hs,e⟩:=Zo e
  have hs:=Us hs
  obtain⟨X,ht,e⟩:=Zo e
  have ht:=Y5 ht
  obtain⟨m,hr,e⟩:=Zo e
  have hr:=Oo hr
  obtain⟨n,hn,e⟩:=Zo e
  obtain⟨b,e⟩:=Zu.1 e
  cases e
  simp only[Bool.and_eq_true,decide_eq_true_eq] at b
  obtain⟨⟨b1,b2⟩,rfl⟩:=b
  have hm:=Y7 b1
  have hc:=Y7 b2
  have a0:0≤a∧a≤33:=by rcases Zc4 hn with ⟨rfl,_⟩|⟨rfl,_⟩|⟨rfl,_⟩<;>omega
  refine Zd.goes fits Hh (by kernel_rfl) (by kernel_rfl) (by kernel_rfl) (show Tryz.f22.body=some _ from rfl) rfl ?_
  repeat (first
   | refine Goes.seq ?_
   | refine Goes.block ?_
   | refine Goes.loop ?_
   | refine Goes.skip ?_
   | refine Goes.exit ?_
   | refine Goes.ret ?_
   | refine Goes.Z4 (by simp (maxSteps:=9^6) +decide (disch:=first|omega|(simp only[lens]<;>omega)|decide) only [go_sem,Zc,Za,simprocAttr,hs,ht,hr,hm,hc,hn,Int.zero_add,read1,Zm,Yz]<;>rfl) ?_
   | refine Goes.ops2 fits Hh (Zf (Zf (Zf Zb (fun _ _ _ _=>Zpv Hh)) (fun _ _ _ _=>Zqe Hh)) (fun _ _ _ _=>Ztw Hh)) (by simp (maxSteps:=9^6) +decide (disch:=first|omega|(simp only[lens]<;>omega)|decide) only [go_sem,Zc,Za,simprocAttr,hs,ht,hr,hm,hc,hn,Int.zero_add,read1,Zm,Yz]; rfl) ?_)
  simp (maxSteps:=9^6) +decide (disch:=first|omega|(simp only[lens]<;>omega)|decide) only [go_sem,Zc,Za,simprocAttr]<;>rfl
 ·cases e
end
end Go.Proofs.YtmdibcklpmeleaaGreatDoor
set_option maxRecDepth 100000
set_option maxHeartbeats 4000000
namespace Go.Proofs.YtmdibcklpmeleaaGreatDoor
open Go.Ev
noncomputable def q7 (p:List Nat):Code:=piece p (Z5 Tryz.f7)
theorem rs73:Tryz.f73.results.toList=[.cell 4 131]:=rfl
theorem rs25:Tryz.f25.results.toList=[.tmp 6]:=rfl
theorem rs7:Tryz.f7.results.toList=[.tmp 6]:=rfl
attribute [go_sem] rs73 rs25 rs7
noncomputable def Rc (h:Go.Ev.H):Go.Ev.H:=((((((h.new (.row 4 [[.mnil,.mnil,.mnil,.pnil]] false)).new (.map [])).new (.row 1 [[.map (h.next+1)]] false)).new (.map [])).new (.map [])).new (.map [])).put h.next (.row 4 [[.map (h.next+1+1+1),.map (h.next+1+1+1+1),.map (h.next+1+1+1+1+1),.ptr (h.next+1+1) 0]] false)
noncomputable def Zxh:Kn1:=fun args h=>match args with
 | [.c (.ptr t 0),.c (.int .u32 _)]=>(Gw h t).bind fun X=>(Vi h X.rv).bind fun m=>Y2 (Eg h m&&Eg h X.ch&&Eg h X.od&&Eg h X.fr) (some (.w (.g [.map (h.next+1+1+1),.map (h.next+1+1+1+1),.map (h.next+1+1+1+1+1),.ptr (h.next+1+1) 0]),Rc h))
 | _=>none
noncomputable def Ztc (h:Go.Ev.H) (t:Nat) (X:Tx) (c r:Int):Go.Ev.H :=
 (Rc ((((((h.put t (.row 13 [txL { X with op:=true }] false)).put t (.row 13 [txL { X with op:=true,cr:=c }] false)).put t (.row 13 [txL { X with op:=true,cr:=c,rk:=r }] false)).new (.map [])).put t (.row 13 [txL { X with op:=true,cr:=c,rk:=r,to:=.map h.next }] false)))).put t (.row 13 [txL { X with op:=true,cr:=c,rk:=r,to:=.map h.next,b1:=.map (h.next+1+1+1+1),b2:=.map (h.next+1+1+1+1+1),b3:=.map (h.next+1+1+1+1+1+1),b4:=.ptr (h.next+1+1+1) 0 }] false)
noncomputable def Zo9:Kn1:=fun args h=>match args with
 | [.c (.ptr t 0),.c (.int .i64 c),.c (.int .i64 r)]=>(Gw h t).bind fun X=>(Vi h X.rv).bind fun m=>Y2 (!X.op&&decide (0≤c)&&decide (0≤r)&&Eg h m&&Eg h X.ch&&Eg h X.od&&Eg h X.fr) (some (.w (.c (.int .i64 0)),Ztc h t X c r))
 | _=>none
noncomputable def O9 (h:Go.Ev.H) (s:Nat) (S:Stt):Go.Ev.H:=((((h.new (.map [])).put s (.row 8 [stL { S with dt:=h.next }] false)).new (.map [])).put s (.row 8 [stL { S with dt:=h.next,gv:=h.next+1 }] false)).put s (.row 8 [stL { S with dt:=h.next,gv:=h.next+1,kn:=false }] false)
noncomputable def Zdu:Kn1:=fun args h=>match args with
 | [.c (.ptr s 0),.c (.int .i64 c),.c (.int .i64 r)]=>(Nr h s).bind fun S=>(Gw h S.tx).bind fun X=>(Qf h S.gd).bind fun _=>(Vi h X.rv).bind fun m=>(Zn8 c).bind fun _=>Y2 (decide (r=0)&&!X.op&&decide (X.sq≤2147483648)&&Eg h m&&Eg h X.ch&&Eg h X.od&&Eg h X.fr) (some (.w (.c (.int .i64 0)),Ztc (O9 h s S) S.tx X c 0))
 | _=>none
attribute [go_sem] Zxh Zo9 Zdu
theorem Z5m:Ud K 61 (.c .snil)=true:=by kernel_rfl
attribute [go_sem] Z5m
section
variable (Hh:Hearts K Tryz.prog)
include Hh
theorem Zn4 {args:List W} {h h':Go.Ev.H} {v:V} (e:Zxh args h=some (v,h')):Zd K Tryz.prog 73 args h v h':=by
 unfold Zxh at e
 split at e
 ·rename_i t q
  obtain⟨X,ht,e⟩:=Zo e
  have ht:=Y5 ht
  obtain⟨m,hr,e⟩:=Zo e
  have hr:=Oo hr
  obtain⟨b,e⟩:=Zu.1 e
  cases e
  simp only[Bool.and_eq_true] at b
  obtain⟨⟨⟨b1,b2⟩,b3⟩,b4⟩:=b
  have hm:=Y7 b1
  have hc:=Y7 b2
  have ho:=Y7 b3
  have hf:=Y7 b4
  refine Zd.tidy ⟨Tryz.f73,Tryz.func73,by kernel_rfl,by decide⟩ fun tidy=>?_
  have l1:=tidy _ _ ht
  have l2:=tidy _ _ hr
  have l3:=tidy _ _ hm
  have l4:=tidy _ _ hc
  have l5:=tidy _ _ ho
  have l6:=tidy _ _ hf
  refine Zd.goes fits Hh (by kernel_rfl) (by kernel_rfl) (by kernel_rfl) (show Tryz.f73.body=some _ from rfl) rfl ?_
  repeat (first
   | refine Goes.seq ?_
   | refine Goes.block ?_
   | refine Goes.loop ?_
   | refine Goes.skip ?_
   | refine Goes.exit ?_
   | refine Goes.ret ?_
   | refine Goes.Z4 (by simp (maxSteps:=9^6) +decide (disch:=first|omega|(simp only[lens]<;>omega)|decide) only [go_sem,Zc,Za,simprocAttr,ht,hr,hm,hc,ho,hf,read1,Zm,Yz,Zx]<;>rfl) ?_
   | refine Goes.ops2 fits Hh (Zf (Zf (Zf (Zf Zb (fun _ _ _ _=>Zfl Hh)) (fun _ _ _ _=>Ziw Hh)) (fun _ _ _ _=>Zjn Hh)) (fun _ _ _ _=>Zjr Hh)) (by simp (maxSteps:=9^6) +decide (disch:=first|omega|(simp only[lens]<;>omega)|decide) only [go_sem,Zc,Za,simprocAttr,ht,hr,hm,hc,ho,hf,read1,Zm,Yz,Zx]; rfl) ?_
   | refine Goes.drawn2 fits Hh (Zf (Zf (Zf (Zf Zb (fun _ _ _ _=>Zfl Hh)) (fun _ _ _ _=>Ziw Hh)) (fun _ _ _ _=>Zjn Hh)) (fun _ _ _ _=>Zjr Hh)) (by kernel_rfl) (by simp (maxSteps:=9^6) +decide (disch:=first|omega|(simp only[lens]<;>omega)|decide) only [go_sem,Zc,Za,simprocAttr,U2,Je,Ju,Ux,Y9,Uv,Jp,Yw,Jt,Uy,Gg,Jy,Yq,Y1,Yu,Yv,J2,Jb,Jf,Yx,Y8,Jz,Bh,O8,Gu,Rl,R8,Ot,Oj,Uh,G7,Oq,Oc,Uw,Jd,Uo,looks,En,Op.operands,Call.operands,kd,Ox,List.filterMap_cons,List.filterMap_nil,List.append_nil,List.nil_append,List.cons_append,Jk,stable,J5,Oa,Uu,waits,Ja,List.all_cons,List.all_nil,List.any_cons,List.any_nil,Region.binds,Bool.or_true,Bool.true_or,Bool.and_true,Bool.true_and,Bool.or_false,Bool.false_or,Bool.and_self,Bool.or_self,Jq,Nat.le_refl,Nat.le_add_right,List.map_cons,Array.toList_append,ht,hr,hm,hc,ho,hf,read1,Zm,Yz,Zx]; rfl) ?_)
  simp (maxSteps:=9^6) +decide (disch:=first|omega|(simp only[lens]<;>omega)|decide) only [go_sem,Zc,Za,simprocAttr,Rc]<;>rfl
 ·cases e
set_option maxHeartbeats 1000000 in
theorem Zym {args:List W} {h h':Go.Ev.H} {v:V} (e:Zo9 args h=some (v,h')):Zd K Tryz.prog 25 args h v h':=by
 unfold Zo9 at e
 split at e
 ·rename_i t c r
  obtain⟨X,ht,e⟩:=Zo e
  have ht:=Y5 ht
  obtain⟨m,hr,e⟩:=Zo e
  have hr:=Oo hr
  obtain⟨b,e⟩:=Zu.1 e
  cases e
  simp only[Bool.and_eq_true,decide_eq_true_eq,Bool.not_eq_true'] at b
  obtain⟨⟨⟨⟨⟨⟨bo,c0⟩,r0⟩,b1⟩,b2⟩,b3⟩,b4⟩:=b
  have hm:=Y7 b1
  have hc:=Y7 b2
  have ho:=Y7 b3
  have hf:=Y7 b4
  refine Zd.tidy ⟨Tryz.f25,Tryz.func25,by kernel_rfl,by decide⟩ fun tidy=>?_
  have l1:=tidy _ _ ht
  have l2:=tidy _ _ hr
  have l3:=tidy _ _ hm
  have l4:=tidy _ _ hc
  have l5:=tidy _ _ ho
  have l6:=tidy _ _ hf
  have n2:X.rv≠t:=fun e1=>by rw[e1,ht] at hr; cases hr
  have n3:m≠t:=fun e1=>by rw[e1,ht] at hm; cases hm
  have n4:X.ch≠t:=fun e1=>by rw[e1,ht] at hc; cases hc
  have n5:X.od≠t:=fun e1=>by rw[e1,ht] at ho; cases ho
  have n6:X.fr≠t:=fun e1=>by rw[e1,ht] at hf; cases hf
  refine Zd.goes fits Hh (by kernel_rfl) (by kernel_rfl) (by kernel_rfl) (show Tryz.f25.body=some _ from rfl) rfl ?_
  repeat (first
   | refine Goes.seq ?_
   | refine Goes.block ?_
   | refine Goes.loop ?_
   | refine Goes.skip ?_
   | refine Goes.exit ?_
   | refine Goes.ret ?_
   | refine Goes.Z4 (by simp (maxSteps:=9^6) +decide (disch:=first|omega|(simp only[lens]<;>omega)|decide) only [go_sem,Zc,Za,simprocAttr,ht,bo,hr,hm,hc,ho,hf,read1,Zx,Rc]<;>rfl) ?_
   | refine Goes.ops2 fits Hh (Zf (Zf Zb (fun _ _ _ _=>Bt Hh)) (fun _ _ _ _=>Zn4 Hh)) (by simp (maxSteps:=9^6) +decide (disch:=first|omega|(simp only[lens]<;>omega)|decide) only [go_sem,Zc,Za,simprocAttr,ht,bo,hr,hm,hc,ho,hf,read1,Zx,Rc]; rfl) ?_
   | refine Goes.drawn2 fits Hh (Zf (Zf Zb (fun _ _ _ _=>Bt Hh)) (fun _ _ _ _=>Zn4 Hh)) (by kernel_rfl) (by simp (maxSteps:=9^6) +decide (disch:=first|omega|(simp only[lens]<;>omega)|decide) only [go_sem,Zc,Za,simprocAttr,U2,Je,Ju,Ux,Y9,Uv,Jp,Yw,Jt,Uy,Gg,Jy,Yq,Y1,Yu,Yv,J2,Jb,Jf,Yx,Y8,Jz,Bh,O8,Gu,Rl,R8,Ot,Oj,Uh,G7,Oq,Oc,Uw,Jd,Uo,looks,En,Op.operands,Call.operands,kd,Ox,List.filterMap_cons,List.filterMap_nil,List.append_nil,List.nil_append,List.cons_append,Jk,stable,J5,Oa,Uu,waits,Ja,List.all_cons,List.all_nil,List.any_cons,List.any_nil,Region.binds,Bool.or_true,Bool.true_or,Bool.and_true,Bool.true_and,Bool.or_false,Bool.false_or,Bool.and_self,Bool.or_self,Jq,Nat.le_refl,Nat.le_add_right,List.map_cons,Array.toList_append,ht,bo,hr,hm,hc,ho,hf,read1,Zx,Rc]; rfl) ?_)
  simp (maxSteps:=9^6) +decide (disch:=first|omega|(simp only[lens]<;>omega)|decide) only [go_sem,Zc,Za,simprocAttr,Ztc,Rc]<;>rfl
 ·cases e
end
end Go.Proofs.YtmdibcklpmeleaaGreatDoor
set_option maxRecDepth 100000
set_option maxHeartbeats 4000000
namespace Go.Proofs.YtmdibcklpmeleaaGreatDoor
open Go.Ev
section
variable (Hh:Hearts K Tryz.prog)
include Hh
set_option maxHeartbeats 4000000 in
theorem Zw4 {args:List W} {h h':Go.Ev.H} {v:V} (e:Zdu args h=some (v,h')):Zd K Tryz.prog 7 args h v h':=by
 unfold Zdu at e
 split at e
 ·rename_i s c r
  obtain⟨S,hs,e⟩:=Zo e
  have hs:=Us hs
  obtain⟨X,ht,e⟩:=Zo e
  have ht:=Y5 ht
  obtain⟨G,hg,e⟩:=Zo e
  obtain⟨hg,fb⟩:=Bg hg
  obtain⟨m,hr,e⟩:=Zo e
  have hr:=Oo hr
  obtain⟨n,hn,e⟩:=Zo e
  obtain⟨b,e⟩:=Zu.1 e
  cases e
  simp only[Bool.and_eq_true,decide_eq_true_eq,Bool.not_eq_true'] at b
  obtain⟨⟨⟨⟨⟨⟨rfl,bo⟩,sq⟩,b1⟩,b2⟩,b3⟩,b4⟩:=b
  have hm:=Y7 b1
  have hc:=Y7 b2
  have ho:=Y7 b3
  have hf:=Y7 b4
  have F:=Yn fb
  obtain⟨g1,g2,g3,g4,g5,g6,g7,g8,g9,g10,g11⟩:=F
  refine Zd.tidy ⟨Tryz.f7,Tryz.func7,by kernel_rfl,by decide⟩ fun tidy=>?_
  have l1:=tidy _ _ ht
  have l2:=tidy _ _ hr
  have l3:=tidy _ _ hm
  have l4:=tidy _ _ hc
  have l5:=tidy _ _ ho
  have l6:=tidy _ _ hf
  have l7:=tidy _ _ hs
  have l8:=tidy _ _ hg
  have n1:S.tx≠s:=fun e1=>by rw[e1,hs] at ht; cases ht
  have n2:X.rv≠s:=fun e1=>by rw[e1,hs] at hr; cases hr
  have n3:m≠s:=fun e1=>by rw[e1,hs] at hm; cases hm
  have n4:X.ch≠s:=fun e1=>by rw[e1,hs] at hc; cases hc
  have n5:X.od≠s:=fun e1=>by rw[e1,hs] at ho; cases ho
  have n6:X.fr≠s:=fun e1=>by rw[e1,hs] at hf; cases hf
  have a0:0≤c∧c≤33∧5≤n∧n≤36:=by rcases Zc4 hn with ⟨rfl,rfl⟩|⟨rfl,rfl⟩|⟨rfl,rfl⟩<;>omega
  refine Zd.goes fits Hh (by kernel_rfl) (by kernel_rfl) (by kernel_rfl) (show Tryz.f7.body=some _ from rfl) rfl ?_
  repeat (first
   | refine Goes.seq ?_
   | refine Goes.block ?_
   | refine Goes.loop ?_
   | refine Goes.skip ?_
   | refine Goes.exit ?_
   | refine Goes.ret ?_
   | refine Goes.Z4 (by simp (maxSteps:=9^6) +decide (disch:=first|omega|(simp only[lens]<;>omega)|decide) only [go_sem,Zc,Za,simprocAttr,hn,hs,ht,bo,hg,gdL,fb,hr,hm,hc,ho,hf,read1]<;>rfl) ?_
   | refine Goes.ops2 fits Hh (Zf (Zf (Zf (Zf (Zf (Zf (Zf Zb (fun _ _ _ _=>Br Hh)) (fun _ _ _ _=>Z5d Hh)) (fun _ _ _ _=>Zgr Hh)) (fun _ _ _ _=>Ztw Hh)) (fun _ _ _ _=>Z7p Hh)) (fun _ _ _ _=>D9 Hh)) (fun _ _ _ _=>Zym Hh)) (by simp (maxSteps:=9^6) +decide (disch:=first|omega|(simp only[lens]<;>omega)|decide) only [go_sem,Zc,Za,simprocAttr,hn,hs,ht,bo,hg,gdL,fb,hr,hm,hc,ho,hf,read1]; rfl) ?_)
  simp (maxSteps:=9^6) +decide (disch:=first|omega|(simp only[lens]<;>omega)|decide) only [go_sem,Zc,Za,simprocAttr,O9]<;>rfl
 ·cases e
end
end Go.Proofs.YtmdibcklpmeleaaGreatDoor
