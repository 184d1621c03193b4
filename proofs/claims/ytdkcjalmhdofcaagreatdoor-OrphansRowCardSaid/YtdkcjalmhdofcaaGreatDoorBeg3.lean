/- What Begin asks: revoked and changed blocks, if there are none; need. -/
import Derived.Test.YtdkcjalmhdofcaaGreatDoorSto
import Derived.Test.YtdkcjalmhdofcaaGreatDoorNew2
set_option linter.unusedSimpArgs false
set_option linter.unusedVariables false
set_option linter.unusedSectionVars false
set_option maxRecDepth 100000
set_option maxHeartbeats 4000000
namespace Go.Proofs.YtdkcjalmhdofcaaGreatDoor
open Go.Ev
theorem rs110:Tryz.f110.results.toList=[.tmp 4]:=rfl
theorem rs71:Tryz.f71.results.toList=[.tmp 2]:=rfl
theorem rs72:Tryz.f72.results.toList=[.tmp 2]:=rfl
theorem rs151:Tryz.f151.results.toList=[.tmp 2]:=rfl
theorem rs111:Tryz.f111.results.toList=[.tmp 2]:=rfl
theorem rs23:Tryz.f23.results.toList=[.tmp 6,.tmp 7]:=rfl
attribute [go_sem] rs110 rs71 rs72 rs151 rs111 rs23
noncomputable def Zmp:Kn1:=fun args h=>match args with
 | [.c .snil]=>some (.tup [],h)
 | _=>none
noncomputable def Z1l:Kn1:=fun args h=>match args with
 | [.c (.ptr r 0),.c (.int .u32 _)]=>(N8 h r).bind fun m=>Yt (Bb h m) (some (.w (.c .snil),h))
 | _=>none
noncomputable def Zax:Kn1:=fun args h=>match args with
 | [.c (.ptr t 0)]=>(Ox h t).bind fun X=>(N8 h X.rv).bind fun m=>Yt (Bb h m) (some (.w (.c .snil),h))
 | _=>none
noncomputable def Zbb:Kn1:=fun args h=>match args with
 | [.c (.ptr t 0)]=>(Ox h t).bind fun X=>Yt (Bb h X.ch) (some (.w (.c .snil),h))
 | _=>none
noncomputable def Zm6:Kn1:=fun args h=>match args with
 | [.c (.map m)]=>some (.w (.c (.fn 185 [] [some (h.next,0)])),h.new (.row 1 [[.map m]] false))
 | _=>none
noncomputable def Zia:Kn1:=fun args h=>match args with
 | [.c (.fn g [] [some (a,0)])]=>Yt (K.keys.contains g) (match h.get a with
  | some (.row sz [[.map n]] _)=>Yt (Nat.beq sz 1) ((getM h n).bind fun l=>match Ea (J9 l) with
   | some []=>some (.w (.c .snil),h)
   | some (k :: ks)=>Yt (Nat.ble (k :: ks).length 1000000) (some (.w (.c (.slice h.next 0 (k :: ks).length 1)),h.new (.row 1 ((k :: ks).map fun i=>[.int .i64 i]) false)))
   | none=>none)
  | _=>none)
 | _=>none
noncomputable def Zva:Kn1:=fun args h=>match args with
 | [.c (.map m)]=>Yt (Bb h m) (some (.w (.c .snil),h))
 | _=>none
def Zhp (a:Int):Option Int:=bif decide (a=33) then some 36 else bif decide (a=3) then some 5 else bif decide (a=9) then some 11 else bif decide (a=12) then some 14 else bif decide (a=20) then some 22 else bif decide (a=30) then some 32 else none
theorem Wo {a n:Int} (e:Zhp a=some n):(a=33∧n=36)∨(a=3∧n=5)∨(a=9∧n=11)∨(a=12∧n=14)∨(a=20∧n=22)∨(a=30∧n=32):=by
 unfold Zhp at e
 by_cases h1:a=33
 ·rw[decide_eq_true h1] at e; cases e; exact .inl ⟨h1,rfl⟩
 rw[decide_eq_false h1,cond_false] at e
 by_cases h2:a=3
 ·rw[decide_eq_true h2] at e; cases e; exact .inr (.inl ⟨h2,rfl⟩)
 rw[decide_eq_false h2,cond_false] at e
 by_cases h3:a=9
 ·rw[decide_eq_true h3] at e; cases e; exact .inr (.inr (.inl ⟨h3,rfl⟩))
 rw[decide_eq_false h3,cond_false] at e
 by_cases h4:a=12
 ·rw[decide_eq_true h4] at e; cases e; exact .inr (.inr (.inr (.inl ⟨h4,rfl⟩)))
 rw[decide_eq_false h4,cond_false] at e
 by_cases h5:a=20
 ·rw[decide_eq_true h5] at e; cases e; exact .inr (.inr (.inr (.inr (.inl ⟨h5,rfl⟩))))
 rw[decide_eq_false h5,cond_false] at e
 by_cases h6:a=30
 ·rw[decide_eq_true h6] at e; cases e; exact .inr (.inr (.inr (.inr (.inr ⟨h6,rfl⟩))))
 ·rw[decide_eq_false h6] at e; cases e
noncomputable def Zvt:Kn1:=fun args h=>match args with
 | [.c (.int .i64 a),.c (.int .i64 b)]=>(Zhp a).bind fun n=>Yt (decide (b=0)) (some (.w (.c (.int .i64 n)),h))
 | _=>none
noncomputable def Zvr:Kn1:=fun args h=>match args with
 | [.c (.ptr s 0),.c (.int .i64 a),.c (.int .i64 b)]=>(Dq h s).bind fun S=>(Ox h S.tx).bind fun X=>(N8 h X.rv).bind fun m=>(Zhp a).bind fun n=>Yt (Bb h m&&Bb h X.ch&&decide (b=0)) (some (.tup [.c (.int .i64 n),.c (.int .i64 0)],h))
 | _=>none
noncomputable def Zi1:Kn1:=fun args h=>match args with
 | [.c (.map m)]=>match h.get m with
  | some (.map es)=>some (.w (.c (.map h.next)),h.new (.map es))
  | _=>none
 | _=>none
noncomputable def Zh7:Kn1:=fun args h=>match args with
 | [.c (.map m)]=>match h.get m with
  | some (.map es)=>some (.w (.c (.map h.next)),h.new (.map es))
  | _=>none
 | _=>none
attribute [go_sem] Zmp Z1l Zax Zbb Zm6 Zia Zva Zvt Zvr Zi1 Zh7
theorem Z0v:K.keys.contains 185=true:=by kernel_rfl
theorem Zxg:Yr K 22 (.c .snil)=true:=by kernel_rfl
theorem Z0i:Ea (J9 [])=some []:=rfl
theorem Zy5:Ty []=some []:=rfl
attribute [go_sem] Z0v Zxg Z0i Zy5
theorem Znp (E:Task→Option Out) (ts:Zy) (h:Go.Ev.H) (t:TypeId) (x:Operand):Jn K E ts h (.range t x)=(match Gj K t with|some _=>Qd h (Zx K ts x)|none=>none):=rfl
theorem Zqt (E:Task→Option Out) (ts:Zy) (h:Go.Ev.H) (x:Operand):Jn K E ts h (.next x false)=Zbd h (Zbc h (Zx K ts x)):=rfl
attribute [go_sem] Znp Zqt Qd Zbd Zbc
noncomputable def x00:Kn:=fun _ _ _=>none
theorem Zh1:Zd5 K Tryz.prog x00:=fun _ _ _ _ _ e=>by cases e
section
variable (Hh:Hearts K Tryz.prog)
include Hh
theorem Zsa {args:List W} {h h':Go.Ev.H} {v:V} (e:Zmp args h=some (v,h')):Zg K Tryz.prog 149 args h v h':=by
 unfold Zmp at e
 split at e
 ·cases e
  exact Zg.closed fits Hh Zh1 gl (n:=1000) (by kernel_rfl) rfl rfl h
 ·cases e
theorem Zlj {args:List W} {h h':Go.Ev.H} {v:V} (e:Zvt args h=some (v,h')):Zg K Tryz.prog 22 args h v h':=by
 unfold Zvt at e
 split at e
 ·obtain⟨n,hn,e⟩:=Zq e
  obtain⟨b,e⟩:=Zv.1 e
  obtain rfl:=of_decide_eq_true b
  cases e
  rcases Wo hn with ⟨rfl,rfl⟩|⟨rfl,rfl⟩|⟨rfl,rfl⟩|⟨rfl,rfl⟩|⟨rfl,rfl⟩|⟨rfl,rfl⟩
  all_goals exact Zg.closed fits Hh Zh1 gl (n:=1000) (by kernel_rfl) rfl rfl h
 ·cases e
theorem Ze2 {f:FuncId} {args:List W} {h h':Go.Ev.H} {v:V} (e:Bg K E0 f args h=some (.val v h')):Zg K Tryz.prog f args h v h':=by
 have T:=Ec (P:=Tryz.prog) fits Hh Zb (Xg fits Zb)
 exact T.call f args h v h' e
theorem Zno {args:List W} {h h':Go.Ev.H} {v:V} (e:Zia args h=some (v,h')):Zg K Tryz.prog 150 args h v h':=by
 refine Ze2 Hh ?_
 have e1:Bg K E0 150 args h=Em K h args:=by kernel_rfl
 rw[e1]
 unfold Zia at e
 split at e
 ·rename_i g a
  obtain⟨b,e⟩:=Zv.1 e
  split at e
  ·rename_i n ro hg
   obtain⟨b1,e⟩:=Zv.1 e
   obtain rfl:=Nat.eq_of_beq_eq_true b1
   obtain⟨l,hl,e⟩:=Zq e
   have hl:=getM_some hl
   have r1:read1 1 [[C.map n]] 0=some (.map n):=rfl
   simp only[Em,b,cond_true,hg,r1,Qh,hl]
   split at e
   ·rename_i hk
    cases e
    rw[hk]
    rfl
   ·rename_i k ks hk
    obtain⟨b2,e⟩:=Zv.1 e
    cases e
    rw[hk]
    show (bif Nat.ble (k :: ks).length 1000000 then _ else none)=_
    rw[b2]
    rfl
   ·cases e
  ·cases e
 ·cases e
theorem Zeq {args:List W} {h h':Go.Ev.H} {v:V} (e:Zi1 args h=some (v,h')):Zg K Tryz.prog 117 args h v h':=by
 unfold Zi1 at e
 split at e
 ·split at e
  ·rename_i es he
   cases e
   refine Ze2 Hh ?_
   have e1:∀ args,Bg K E0 117 args h=Eg h args:=fun args=>by kernel_rfl
   rw[e1]
   simp only[Eg,he]
  ·cases e
 ·cases e
theorem Zep {args:List W} {h h':Go.Ev.H} {v:V} (e:Zh7 args h=some (v,h')):Zg K Tryz.prog 118 args h v h':=by
 unfold Zh7 at e
 split at e
 ·split at e
  ·rename_i es he
   cases e
   refine Ze2 Hh ?_
   have e1:∀ args,Bg K E0 118 args h=Eg h args:=fun args=>by kernel_rfl
   rw[e1]
   simp only[Eg,he]
  ·cases e
 ·cases e
theorem Zqn {args:List W} {h h':Go.Ev.H} {v:V} (e:Zm6 args h=some (v,h')):Zg K Tryz.prog 151 args h v h':=by
 unfold Zm6 at e
 split at e
 ·cases e
  refine Zg.goes fits Hh (by kernel_rfl) (by kernel_rfl) (by kernel_rfl) (show Tryz.f151.body=some _ from rfl) rfl ?_
  repeat (first|apply Goes.seq|apply Goes.block|apply Goes.loop|apply Goes.skip|apply Goes.exit|apply Goes.ret|((first|apply Goes.Zo|apply Goes.ops2 fits Hh Zb); · simp (maxSteps:=9^6) +decide (disch:=first|omega|(simp only[lens]<;>omega)|decide) only [go_sem,Zd,Za,simprocAttr,Z6]<;>rfl))
  simp (maxSteps:=9^6) +decide (disch:=first|omega|(simp only[lens]<;>omega)|decide) only [go_sem,Zd,Za,simprocAttr]<;>rfl
 ·cases e
theorem Zdb {args:List W} {h h':Go.Ev.H} {v:V} (e:Z1l args h=some (v,h')):Zg K Tryz.prog 110 args h v h':=by
 unfold Z1l at e
 split at e
 ·rename_i r q
  obtain⟨m,hr,e⟩:=Zq e
  have hr:=Uo hr
  obtain⟨b,e⟩:=Zv.1 e
  have hm:=Yw b
  cases e
  refine Zg.tidy ⟨Tryz.f110,Tryz.func110,by kernel_rfl,by decide⟩ fun tidy=>?_
  have l1:=tidy _ _ hr
  have l2:=tidy _ _ hm
  obtain⟨v,h',cc,rfl,hk⟩:∃ v h',Zg K Tryz.prog 110 [.c (.ptr r 0),.c (.int .u32 q)] h v h'∧v=.w (.c .snil)∧∀ j,j<h.next→h'.get j=h.get j:=by
   refine Zg.Yb fits Hh (by kernel_rfl) (by kernel_rfl) (by kernel_rfl) (show Tryz.f110.body=some _ from rfl) rfl ?_
   repeat (first|apply Goes.seq|apply Goes.block|apply Goes.loop|apply Goes.skip|apply Goes.exit|apply Goes.ret|((first|apply Goes.Zo|apply Goes.ops2 fits Hh (Zj (Zj Zb (fun _ _ _ _=>Zhu Hh)) (fun _ _ _ _=>Zsa Hh))); · simp (maxSteps:=9^6) +decide (disch:=first|omega|(simp only[lens]<;>omega)|decide) only [go_sem,Zd,Za,simprocAttr,hr,hm,read1,Qd,Zbd,Zbc]<;>rfl))
   exact⟨_,_,(by simp (maxSteps:=9^6) +decide (disch:=first|omega|(simp only[lens]<;>omega)|decide) only [go_sem,Zd,Za,simprocAttr]<;>rfl),rfl,fun j hj=>by (first|(simp (discharger:=omega) only [H.get_put,H.Zf,H.Zk,H.Zc,H.Zh,H.Zi,if_neg]; done)|(simp only[H.get_put,H.Zf,H.Zk,H.Zc,H.Zh,H.Zi]; (repeat' split)<;>first|rfl|(exfalso; omega)|omega))⟩
  exact cc.quiet rfl hk
 ·cases e
theorem Zi0 {args:List W} {h h':Go.Ev.H} {v:V} (e:Zax args h=some (v,h')):Zg K Tryz.prog 71 args h v h':=by
 unfold Zax at e
 split at e
 ·rename_i t
  obtain⟨X,ht,e⟩:=Zq e
  have ht:=Yv ht
  obtain⟨m,hr,e⟩:=Zq e
  have hr:=Uo hr
  obtain⟨b,e⟩:=Zv.1 e
  have hm:=Yw b
  cases e
  refine Zg.goes fits Hh (by kernel_rfl) (by kernel_rfl) (by kernel_rfl) (show Tryz.f71.body=some _ from rfl) rfl ?_
  repeat (first|apply Goes.seq|apply Goes.block|apply Goes.loop|apply Goes.skip|apply Goes.exit|apply Goes.ret|((first|apply Goes.Zo|apply Goes.ops2 fits Hh (Zj (Zj Zb (fun _ _ _ _=>Gc Hh)) (fun _ _ _ _=>Zdb Hh))); · simp (maxSteps:=9^6) +decide (disch:=first|omega|(simp only[lens]<;>omega)|decide) only [go_sem,Zd,Za,simprocAttr,ht,hr,hm,read1]<;>rfl)|(apply Goes.drawn2 fits Hh (Zj (Zj Zb (fun _ _ _ _=>Gc Hh)) (fun _ _ _ _=>Zdb Hh)) (by kernel_rfl); · simp (maxSteps:=9^6) +decide (disch:=first|omega|(simp only[lens]<;>omega)|decide) only [go_sem,Zd,Za,simprocAttr,drG,ht,hr,hm,read1]<;>rfl))
  simp (maxSteps:=9^6) +decide (disch:=first|omega|(simp only[lens]<;>omega)|decide) only [go_sem,Zd,Za,simprocAttr]<;>rfl
 ·cases e
theorem Zua {args:List W} {h h':Go.Ev.H} {v:V} (e:Zva args h=some (v,h')):Zg K Tryz.prog 111 args h v h':=by
 unfold Zva at e
 split at e
 ·rename_i m
  obtain⟨b,e⟩:=Zv.1 e
  have hm:=Yw b
  cases e
  refine Zg.tidy ⟨Tryz.f111,Tryz.func111,by kernel_rfl,by decide⟩ fun tidy=>?_
  have l2:=tidy _ _ hm
  obtain⟨v,h',cc,rfl,hk⟩:∃ v h',Zg K Tryz.prog 111 [.c (.map m)] h v h'∧v=.w (.c .snil)∧∀ j,j<h.next→h'.get j=h.get j:=by
   refine Zg.Yb fits Hh (by kernel_rfl) (by kernel_rfl) (by kernel_rfl) (show Tryz.f111.body=some _ from rfl) rfl ?_
   repeat (first|apply Goes.seq|apply Goes.block|apply Goes.loop|apply Goes.skip|apply Goes.exit|apply Goes.ret|((first|apply Goes.Zo|apply Goes.ops2 fits Hh (Zj (Zj Zb (fun _ _ _ _=>Zqn Hh)) (fun _ _ _ _=>Zno Hh))); · simp (maxSteps:=9^6) +decide (disch:=first|omega|(simp only[lens]<;>omega)|decide) only [go_sem,Zd,Za,simprocAttr,hm,read1]<;>rfl))
   exact⟨_,_,(by simp (maxSteps:=9^6) +decide (disch:=first|omega|(simp only[lens]<;>omega)|decide) only [go_sem,Zd,Za,simprocAttr]<;>rfl),rfl,fun j hj=>by (first|(simp (discharger:=omega) only [H.get_put,H.Zf,H.Zk,H.Zc,H.Zh,H.Zi,if_neg]; done)|(simp only[H.get_put,H.Zf,H.Zk,H.Zc,H.Zh,H.Zi]; (repeat' split)<;>first|rfl|(exfalso; omega)|omega))⟩
  exact cc.quiet rfl hk
 ·cases e
theorem Zid {args:List W} {h h':Go.Ev.H} {v:V} (e:Zbb args h=some (v,h')):Zg K Tryz.prog 72 args h v h':=by
 unfold Zbb at e
 split at e
 ·rename_i t
  obtain⟨X,ht,e⟩:=Zq e
  have ht:=Yv ht
  obtain⟨b,e⟩:=Zv.1 e
  have hm:=Yw b
  cases e
  refine Zg.goes fits Hh (by kernel_rfl) (by kernel_rfl) (by kernel_rfl) (show Tryz.f72.body=some _ from rfl) rfl ?_
  repeat (first|apply Goes.seq|apply Goes.block|apply Goes.loop|apply Goes.skip|apply Goes.exit|apply Goes.ret|((first|apply Goes.Zo|apply Goes.ops2 fits Hh (Zj (Zj Zb (fun _ _ _ _=>Gc Hh)) (fun _ _ _ _=>Zua Hh))); · simp (maxSteps:=9^6) +decide (disch:=first|omega|(simp only[lens]<;>omega)|decide) only [go_sem,Zd,Za,simprocAttr,ht,hm,read1]<;>rfl))
  simp (maxSteps:=9^6) +decide (disch:=first|omega|(simp only[lens]<;>omega)|decide) only [go_sem,Zd,Za,simprocAttr]<;>rfl
 ·cases e
theorem Zum {args:List W} {h h':Go.Ev.H} {v:V} (e:Zvr args h=some (v,h')):Zg K Tryz.prog 23 args h v h':=by
 unfold Zvr at e
 split at e
 ·rename_i s a b
  obtain⟨S,hs,e⟩:=Zq e
  have hs:=Je hs
  obtain⟨X,ht,e⟩:=Zq e
  have ht:=Yv ht
  obtain⟨m,hr,e⟩:=Zq e
  have hr:=Uo hr
  obtain⟨n,hn,e⟩:=Zq e
  obtain⟨b,e⟩:=Zv.1 e
  cases e
  simp only[Bool.and_eq_true,decide_eq_true_eq] at b
  obtain⟨⟨b1,b2⟩,rfl⟩:=b
  have hm:=Yw b1
  have hc:=Yw b2
  have a0:0≤a∧a≤33:=by rcases Wo hn with ⟨rfl,_⟩|⟨rfl,_⟩|⟨rfl,_⟩|⟨rfl,_⟩|⟨rfl,_⟩|⟨rfl,_⟩<;>omega
  refine Zg.goes fits Hh (by kernel_rfl) (by kernel_rfl) (by kernel_rfl) (show Tryz.f23.body=some _ from rfl) rfl ?_
  repeat (first|apply Goes.seq|apply Goes.block|apply Goes.loop|apply Goes.skip|apply Goes.exit|apply Goes.ret|((first|apply Goes.Zo|apply Goes.ops2 fits Hh (Zj (Zj (Zj Zb (fun _ _ _ _=>Zi0 Hh)) (fun _ _ _ _=>Zid Hh)) (fun _ _ _ _=>Zlj Hh))); · simp (maxSteps:=9^6) +decide (disch:=first|omega|(simp only[lens]<;>omega)|decide) only [go_sem,Zd,Za,simprocAttr,hs,ht,hr,hm,hc,hn,Int.zero_add,read1,Zn,Yg]<;>rfl))
  simp (maxSteps:=9^6) +decide (disch:=first|omega|(simp only[lens]<;>omega)|decide) only [go_sem,Zd,Za,simprocAttr]<;>rfl
 ·cases e
end
end Go.Proofs.YtdkcjalmhdofcaaGreatDoor
set_option maxRecDepth 100000
set_option maxHeartbeats 4000000
namespace Go.Proofs.YtdkcjalmhdofcaaGreatDoor
open Go.Ev
noncomputable def q6 (p:List Nat):Code:=piece p (Jz Tryz.f6)
theorem rs77:Tryz.f77.results.toList=[.cell 4 177]:=rfl
theorem rs26:Tryz.f26.results.toList=[.tmp 6]:=rfl
theorem rs6:Tryz.f6.results.toList=[.tmp 6]:=rfl
attribute [go_sem] rs77 rs26 rs6
noncomputable def De (h:Go.Ev.H):Go.Ev.H:=((((((h.new (.row 4 [[.mnil,.mnil,.mnil,.pnil]] false)).new (.map [])).new (.row 1 [[.map (h.next+1)]] false)).new (.map [])).new (.map [])).new (.map [])).put h.next (.row 4 [[.map (h.next+1+1+1),.map (h.next+1+1+1+1),.map (h.next+1+1+1+1+1),.ptr (h.next+1+1) 0]] false)
noncomputable def Znr:Kn1:=fun args h=>match args with
 | [.c (.ptr t 0),.c (.int .u32 _)]=>(Ox h t).bind fun X=>(N8 h X.rv).bind fun m=>Yt (Bb h m&&Bb h X.ch&&Bb h X.od&&Bb h X.fr) (some (.w (.g [.map (h.next+1+1+1),.map (h.next+1+1+1+1),.map (h.next+1+1+1+1+1),.ptr (h.next+1+1) 0]),De h))
 | _=>none
noncomputable def Zck (h:Go.Ev.H) (t:Nat) (X:Tx) (c r:Int):Go.Ev.H :=
 (De ((((((h.put t (.row 13 [txL { X with op:=true }] false)).put t (.row 13 [txL { X with op:=true,cr:=c }] false)).put t (.row 13 [txL { X with op:=true,cr:=c,rk:=r }] false)).new (.map [])).put t (.row 13 [txL { X with op:=true,cr:=c,rk:=r,to:=.map h.next }] false)))).put t (.row 13 [txL { X with op:=true,cr:=c,rk:=r,to:=.map h.next,b1:=.map (h.next+1+1+1+1),b2:=.map (h.next+1+1+1+1+1),b3:=.map (h.next+1+1+1+1+1+1),b4:=.ptr (h.next+1+1+1) 0 }] false)
noncomputable def Zjk:Kn1:=fun args h=>match args with
 | [.c (.ptr t 0),.c (.int .i64 c),.c (.int .i64 r)]=>(Ox h t).bind fun X=>(N8 h X.rv).bind fun m=>Yt (!X.op&&decide (0≤c)&&decide (0≤r)&&Bb h m&&Bb h X.ch&&Bb h X.od&&Bb h X.fr) (some (.w (.c (.int .i64 0)),Zck h t X c r))
 | _=>none
noncomputable def Fz (h:Go.Ev.H) (s:Nat) (S:Stt):Go.Ev.H:=((((h.new (.map [])).put s (.row 8 [stL { S with dt:=h.next }] false)).new (.map [])).put s (.row 8 [stL { S with dt:=h.next,gv:=h.next+1 }] false)).put s (.row 8 [stL { S with dt:=h.next,gv:=h.next+1,kn:=false }] false)
noncomputable def Zaj:Kn1:=fun args h=>match args with
 | [.c (.ptr s 0),.c (.int .i64 c),.c (.int .i64 r)]=>(Dq h s).bind fun S=>(Ox h S.tx).bind fun X=>(F8 h S.gd).bind fun _=>(N8 h X.rv).bind fun m=>(Zhp c).bind fun _=>Yt (decide (r=0)&&!X.op&&decide (X.sq≤2147483648)&&Bb h m&&Bb h X.ch&&Bb h X.od&&Bb h X.fr) (some (.w (.c (.int .i64 0)),Zck (Fz h s S) S.tx X c 0))
 | _=>none
attribute [go_sem] Znr Zjk Zaj
theorem Zvq:Yr K 22 (.c .snil)=true:=by kernel_rfl
attribute [go_sem] Zvq
section
variable (Hh:Hearts K Tryz.prog)
include Hh
theorem Zhj {args:List W} {h h':Go.Ev.H} {v:V} (e:Znr args h=some (v,h')):Zg K Tryz.prog 77 args h v h':=by
 unfold Znr at e
 split at e
 ·rename_i t q
  obtain⟨X,ht,e⟩:=Zq e
  have ht:=Yv ht
  obtain⟨m,hr,e⟩:=Zq e
  have hr:=Uo hr
  obtain⟨b,e⟩:=Zv.1 e
  cases e
  simp only[Bool.and_eq_true] at b
  obtain⟨⟨⟨b1,b2⟩,b3⟩,b4⟩:=b
  have hm:=Yw b1
  have hc:=Yw b2
  have ho:=Yw b3
  have hf:=Yw b4
  refine Zg.tidy ⟨Tryz.f77,Tryz.func77,by kernel_rfl,by decide⟩ fun tidy=>?_
  have l1:=tidy _ _ ht
  have l2:=tidy _ _ hr
  have l3:=tidy _ _ hm
  have l4:=tidy _ _ hc
  have l5:=tidy _ _ ho
  have l6:=tidy _ _ hf
  refine Zg.goes fits Hh (by kernel_rfl) (by kernel_rfl) (by kernel_rfl) (show Tryz.f77.body=some _ from rfl) rfl ?_
  repeat (first|apply Goes.seq|apply Goes.block|apply Goes.loop|apply Goes.skip|apply Goes.exit|apply Goes.ret|((first|apply Goes.Zo|apply Goes.ops2 fits Hh (Zj (Zj (Zj (Zj Zb (fun _ _ _ _=>Zbl Hh)) (fun _ _ _ _=>Zdb Hh)) (fun _ _ _ _=>Zeq Hh)) (fun _ _ _ _=>Zep Hh))); · simp (maxSteps:=9^6) +decide (disch:=first|omega|(simp only[lens]<;>omega)|decide) only [go_sem,Zd,Za,simprocAttr,ht,hr,hm,hc,ho,hf,read1,Zn,Yg,Z4]<;>rfl)|(apply Goes.drawn2 fits Hh (Zj (Zj (Zj (Zj Zb (fun _ _ _ _=>Zbl Hh)) (fun _ _ _ _=>Zdb Hh)) (fun _ _ _ _=>Zeq Hh)) (fun _ _ _ _=>Zep Hh)) (by kernel_rfl); · simp (maxSteps:=9^6) +decide (disch:=first|omega|(simp only[lens]<;>omega)|decide) only [go_sem,Zd,Za,simprocAttr,drG,ht,hr,hm,hc,ho,hf,read1,Zn,Yg,Z4]<;>rfl))
  simp (maxSteps:=9^6) +decide (disch:=first|omega|(simp only[lens]<;>omega)|decide) only [go_sem,Zd,Za,simprocAttr,De]<;>rfl
 ·cases e
set_option maxHeartbeats 1000000 in
theorem Zmy {args:List W} {h h':Go.Ev.H} {v:V} (e:Zjk args h=some (v,h')):Zg K Tryz.prog 26 args h v h':=by
 unfold Zjk at e
 split at e
 ·rename_i t c r
  obtain⟨X,ht,e⟩:=Zq e
  have ht:=Yv ht
  obtain⟨m,hr,e⟩:=Zq e
  have hr:=Uo hr
  obtain⟨b,e⟩:=Zv.1 e
  cases e
  simp only[Bool.and_eq_true,decide_eq_true_eq,Bool.not_eq_true'] at b
  obtain⟨⟨⟨⟨⟨⟨bo,c0⟩,r0⟩,b1⟩,b2⟩,b3⟩,b4⟩:=b
  have hm:=Yw b1
  have hc:=Yw b2
  have ho:=Yw b3
  have hf:=Yw b4
  refine Zg.tidy ⟨Tryz.f26,Tryz.func26,by kernel_rfl,by decide⟩ fun tidy=>?_
  have l1:=tidy _ _ ht
  have l2:=tidy _ _ hr
  have l3:=tidy _ _ hm
  have l4:=tidy _ _ hc
  have l5:=tidy _ _ ho
  have l6:=tidy _ _ hf
  have n2:X.rv≠t:=fun e1=>by rw[e1,ht] at hr; cases hr
  have n3:m≠t:=fun e1=>by rw[e1,ht] at hm; cases hm
  have n4:X.ch≠t:=fun e1=>by rw[e1,ht] at hc; cases hc
  have n5:X.od≠t:=fun e1=>by rw[e1,ht] at ho; cases ho
  have n6:X.fr≠t:=fun e1=>by rw[e1,ht] at hf; cases hf
  refine Zg.goes fits Hh (by kernel_rfl) (by kernel_rfl) (by kernel_rfl) (show Tryz.f26.body=some _ from rfl) rfl ?_
  repeat (first|apply Goes.seq|apply Goes.block|apply Goes.loop|apply Goes.skip|apply Goes.exit|apply Goes.ret|((first|apply Goes.Zo|apply Goes.ops2 fits Hh (Zj (Zj Zb (fun _ _ _ _=>Gc Hh)) (fun _ _ _ _=>Zhj Hh))); · simp (maxSteps:=9^6) +decide (disch:=first|omega|(simp only[lens]<;>omega)|decide) only [go_sem,Zd,Za,simprocAttr,ht,bo,hr,hm,hc,ho,hf,read1,Z4,De]<;>rfl)|(apply Goes.drawn2 fits Hh (Zj (Zj Zb (fun _ _ _ _=>Gc Hh)) (fun _ _ _ _=>Zhj Hh)) (by kernel_rfl); · simp (maxSteps:=9^6) +decide (disch:=first|omega|(simp only[lens]<;>omega)|decide) only [go_sem,Zd,Za,simprocAttr,drG,ht,bo,hr,hm,hc,ho,hf,read1,Z4,De]<;>rfl))
  simp (maxSteps:=9^6) +decide (disch:=first|omega|(simp only[lens]<;>omega)|decide) only [go_sem,Zd,Za,simprocAttr,Zck,De]<;>rfl
 ·cases e
end
end Go.Proofs.YtdkcjalmhdofcaaGreatDoor
set_option maxRecDepth 100000
set_option maxHeartbeats 4000000
namespace Go.Proofs.YtdkcjalmhdofcaaGreatDoor
open Go.Ev
section
variable (Hh:Hearts K Tryz.prog)
include Hh
set_option maxHeartbeats 4000000 in
theorem Zoi {args:List W} {h h':Go.Ev.H} {v:V} (e:Zaj args h=some (v,h')):Zg K Tryz.prog 6 args h v h':=by
 unfold Zaj at e
 split at e
 ·rename_i s c r
  obtain⟨S,hs,e⟩:=Zq e
  have hs:=Je hs
  obtain⟨X,ht,e⟩:=Zq e
  have ht:=Yv ht
  obtain⟨G,hg,e⟩:=Zq e
  obtain⟨hg,fb⟩:=Uj hg
  obtain⟨m,hr,e⟩:=Zq e
  have hr:=Uo hr
  obtain⟨n,hn,e⟩:=Zq e
  obtain⟨b,e⟩:=Zv.1 e
  cases e
  simp only[Bool.and_eq_true,decide_eq_true_eq,Bool.not_eq_true'] at b
  obtain⟨⟨⟨⟨⟨⟨rfl,bo⟩,sq⟩,b1⟩,b2⟩,b3⟩,b4⟩:=b
  have hm:=Yw b1
  have hc:=Yw b2
  have ho:=Yw b3
  have hf:=Yw b4
  have F:=Yc fb
  obtain⟨g1,g2,g3,g4,g5,g6,g7,g8,g9,g10,g11⟩:=F
  refine Zg.tidy ⟨Tryz.f6,Tryz.func6,by kernel_rfl,by decide⟩ fun tidy=>?_
  have l1:=tidy _ _ ht
  have l2:=tidy _ _ hr
  have l3:=tidy _ _ hm
  have l4:=tidy _ _ hc
  have l5:=tidy _ _ ho
  have l6:=tidy _ _ hf
  have l7:=tidy _ _ hs
  have l8:=tidy _ _ hg
  have n1:S.tx≠s:=fun e1=>by rw[e1,hs] at ht; cases ht
  have n2:X.rv≠s:=fun e1=>by rw[e1,hs] at hr; cases hr
  have n3:m≠s:=fun e1=>by rw[e1,hs] at hm; cases hm
  have n4:X.ch≠s:=fun e1=>by rw[e1,hs] at hc; cases hc
  have n5:X.od≠s:=fun e1=>by rw[e1,hs] at ho; cases ho
  have n6:X.fr≠s:=fun e1=>by rw[e1,hs] at hf; cases hf
  have a0:0≤c∧c≤33∧5≤n∧n≤36:=by rcases Wo hn with ⟨rfl,rfl⟩|⟨rfl,rfl⟩|⟨rfl,rfl⟩|⟨rfl,rfl⟩|⟨rfl,rfl⟩|⟨rfl,rfl⟩<;>omega
  refine Zg.goes fits Hh (by kernel_rfl) (by kernel_rfl) (by kernel_rfl) (show Tryz.f6.body=some _ from rfl) rfl ?_
  repeat (first|apply Goes.seq|apply Goes.block|apply Goes.loop|apply Goes.skip|apply Goes.exit|apply Goes.ret|((first|apply Goes.Zo|apply Goes.ops2 fits Hh (Zj (Zj (Zj (Zj (Zj (Zj (Zj Zb (fun _ _ _ _=>Ol Hh)) (fun _ _ _ _=>Zxa Hh)) (fun _ _ _ _=>Zbv Hh)) (fun _ _ _ _=>Zlj Hh)) (fun _ _ _ _=>Zum Hh)) (fun _ _ _ _=>Bo Hh)) (fun _ _ _ _=>Zmy Hh))); · simp (maxSteps:=9^6) +decide (disch:=first|omega|(simp only[lens]<;>omega)|decide) only [go_sem,Zd,Za,simprocAttr,hn,hs,ht,bo,hg,gdL,fb,hr,hm,hc,ho,hf,read1]<;>rfl))
  simp (maxSteps:=9^6) +decide (disch:=first|omega|(simp only[lens]<;>omega)|decide) only [go_sem,Zd,Za,simprocAttr,Fz]<;>rfl
 ·cases e
end
end Go.Proofs.YtdkcjalmhdofcaaGreatDoor
