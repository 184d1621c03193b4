/- Pages of super: numbers put and got, the sum, noughts. -/
import Derived.Test.YtdkcjalmhdofcaaGreatDoorPag
set_option linter.unusedSimpArgs false
set_option linter.unusedVariables false
set_option linter.unusedSectionVars false
set_option maxRecDepth 100000
set_option maxHeartbeats 4000000
namespace Go.Proofs.YtdkcjalmhdofcaaGreatDoor
open Go.Ev
theorem ty231:K.types.get 231=some ti231:=by kernel_rfl
theorem sz231:ti231.size=256:=by rfl
theorem ag231:ti231.agg=true:=by rfl
theorem fo231_0:Zp K 231 0=some (0,ti60):=by kernel_rfl
theorem bu231 (ps:List (Nat × W)):Z9 K 231 (some ps)=gW (Z5 K 231 ps ti231.zero.cells):=by kernel_rfl
theorem ze231:ti231.zero=(.g ((List.replicate 256 (.int .u8 0)))):=by rfl
theorem by231:ti231.bytes=256:=by rfl
theorem ty351:K.types.get 351=some ti351:=by kernel_rfl
theorem sz351:ti351.size=1:=by rfl
theorem ag351:ti351.agg=false:=by rfl
theorem de351:ti351.desc=(.slice 192):=by rfl
theorem ze351:ti351.zero=(.c (.snil)):=by rfl
theorem by351:ti351.bytes=24:=by rfl
theorem el351:Yz K 351=some ti192:=by kernel_rfl
attribute [go_sem] ty231 sz231 ag231 fo231_0 bu231 ze231 by231 ty351 sz351 ag351 de351 ze351 by351 el351
theorem rs133:Tryz.f133.results.toList=[]:=rfl
theorem rs122:Tryz.f122.results.toList=[.tmp 4]:=rfl
theorem rs137:Tryz.f137.results.toList=[]:=rfl
theorem rs143:Tryz.f143.results.toList=[.tmp 4]:=rfl
theorem rs166:Tryz.f166.results.toList=[.tmp 2]:=rfl
theorem rs134:Tryz.f134.results.toList=[]:=rfl
theorem rs119:Tryz.f119.results.toList=[.tmp 2]:=rfl
theorem rs120:Tryz.f120.results.toList=[.tmp 6]:=rfl
attribute [go_sem] rs133 rs122 rs137 rs143 rs166 rs134 rs119 rs120
noncomputable def Zug:Kn1:=fun args h=>match args with
 | [.c (.ptr p 0),.c (.int .i64 a),.c (.int .i64 v)]=>(Jy a).bind fun a=>(Jy v).bind fun v=>(Bt h p).bind fun x=>Yt (decide (a+2≤256)&&decide (v<65536)) (some (.tup [],h.put p (.row 256 [pgL (Ua (unN x) a v)] false)))
 | _=>none
noncomputable def Zoy:Kn1:=fun args h=>match args with
 | [.c (.ptr p 0),.c (.int .i64 a),.c (.int .u32 v)]=>(Jy a).bind fun a=>(Jy v).bind fun v=>(Bt h p).bind fun x=>Yt (decide (a+4≤256)&&decide (v<4294967296)) (some (.tup [],h.put p (.row 256 [pgL (Jg (unN x) a v)] false)))
 | _=>none
noncomputable def Ztl:Kn1:=fun args h=>match args with
 | [.c (.ptr p 0),.c (.int .i64 a)]=>(Jy a).bind fun a=>(Bt h p).bind fun x=>Yt (decide (a+2≤256)) (some (.w (.c (.int .i64 ((J4 (unN x) a:Nat):Int))),h))
 | _=>none
noncomputable def Znn:Kn1:=fun args h=>match args with
 | [.c (.ptr p 0),.c (.int .i64 a)]=>(Jy a).bind fun a=>(Bt h p).bind fun x=>Yt (decide (a+4≤256)) (some (.w (.c (.int .u32 ((Yi (unN x) a:Nat):Int))),h))
 | _=>none
noncomputable def Zi8:Kn1:=fun args h=>match args with
 | [.c (.ptr p 0)]=>(Bt h p).bind fun x=>Yt (Bl (h.get 0)) (some (.w (.c (.int .u32 ((Sr (unN x):Nat):Int))),h))
 | _=>none
noncomputable def Znm:Kn1:=fun args h=>match args with
 | [.c (.ptr p 0)]=>(Bt h p).bind fun x=>Yt (Bl (h.get 0)) (some (.tup [],h.put p (.row 256 [pgL (Jg (unN x) 252 (Sr (unN x)))] false)))
 | _=>none
noncomputable def Zen:Kn1:=fun args h=>match args with
 | [.c (.ptr p 0)]=>(Bt h p).bind fun x=>Yt (Bl (h.get 0)) (some (.w (.c (.bool (((Yi (unN x) 252:Nat):Int) == ((Sr (unN x):Nat):Int)))),h))
 | _=>none
noncomputable def Zbo:Kn1:=fun args h=>match args with
 | [.c (.ptr p 0),.c (.int .i64 a),.c (.int .i64 b)]=>(Jy a).bind fun a=>(Jy b).bind fun b=>(Bt h p).bind fun x=>Yt (decide (a≤b)&&decide (b≤256)) (some (.w (.c (.bool (Gu (unN x) a (b - a)))),h))
 | _=>none
attribute [go_sem] Zug Zoy Ztl Znn Zi8 Znm Zen Zbo
theorem Z3t {ns:List Nat} {ro:Bool} (h:256≤ns.length∧ns.length≤256):reaches 0 256 (some (.row 256 [pgL ns] ro))=true:=by
 unfold reaches
 show (match read1 256 [pgL ns] 255 with
  | some _=>Nat.ble 1 256
  | none=>false)=true
 rw[Zr8 (by omega)]
 rfl
attribute [go_sem] Z3t
section
variable (Hh:Hearts K Tryz.prog)
include Hh
theorem Zww {args:List W} {h h':Go.Ev.H} {v:V} (e:Zug args h=some (v,h')):Zg K Tryz.prog 133 args h v h':=by
 unfold Zug at e
 split at e
 ·obtain⟨a,ha,e⟩:=Zq e
  obtain⟨v,hv,e⟩:=Zq e
  obtain⟨x,hx,e⟩:=Zq e
  obtain⟨ns,rfl,hl,hp⟩:=Jf hx
  obtain⟨b,e⟩:=Zv.1 e
  simp only[Bool.and_eq_true,decide_eq_true_eq] at b
  obtain⟨b1,b2⟩:=b
  cases e
  rw[Z8 ha,Z8 hv,Om,Zdo]
  refine Zg.goes fits Hh (by kernel_rfl) (by kernel_rfl) (by kernel_rfl) (show Tryz.f133.body=some _ from rfl) rfl ?_
  repeat (first|apply Goes.seq|apply Goes.block|apply Goes.loop|apply Goes.skip|apply Goes.exit|apply Goes.ret|((first|apply Goes.Zo|apply Goes.ops2 fits Hh (Zj Zb (fun _ _ _ _=>Zg7 Hh))); · simp (maxSteps:=9^6) +decide (disch:=first|omega|(simp only[lens]<;>omega)|decide) only [go_sem,Zd,Za,simprocAttr,hp,hl,U5,Da,bound,Dy,Nat.add_zero]<;>rfl))
  simp (maxSteps:=9^6) +decide (disch:=first|omega|(simp only[lens]<;>omega)|decide) only [go_sem,Zd,Za,simprocAttr]<;>rfl
 ·cases e
theorem Zsj {args:List W} {h h':Go.Ev.H} {v:V} (e:Zoy args h=some (v,h')):Zg K Tryz.prog 137 args h v h':=by
 unfold Zoy at e
 split at e
 ·obtain⟨a,ha,e⟩:=Zq e
  obtain⟨v,hv,e⟩:=Zq e
  obtain⟨x,hx,e⟩:=Zq e
  obtain⟨ns,rfl,hl,hp⟩:=Jf hx
  obtain⟨b,e⟩:=Zv.1 e
  simp only[Bool.and_eq_true,decide_eq_true_eq] at b
  obtain⟨b1,b2⟩:=b
  cases e
  rw[Z8 ha,Z8 hv,Om,Nh]
  refine Zg.goes fits Hh (by kernel_rfl) (by kernel_rfl) (by kernel_rfl) (show Tryz.f137.body=some _ from rfl) rfl ?_
  repeat (first|apply Goes.seq|apply Goes.block|apply Goes.loop|apply Goes.skip|apply Goes.exit|apply Goes.ret|((first|apply Goes.Zo|apply Goes.ops2 fits Hh (Zj Zb (fun _ _ _ _=>Zg1 Hh))); · simp (maxSteps:=9^6) +decide (disch:=first|omega|(simp only[lens]<;>omega)|decide) only [go_sem,Zd,Za,simprocAttr,hp,hl,U5,Da,bound,Dy,Nat.add_zero]<;>rfl))
  simp (maxSteps:=9^6) +decide (disch:=first|omega|(simp only[lens]<;>omega)|decide) only [go_sem,Zd,Za,simprocAttr]<;>rfl
 ·cases e
theorem Zv2 {args:List W} {h h':Go.Ev.H} {v:V} (e:Ztl args h=some (v,h')):Zg K Tryz.prog 122 args h v h':=by
 unfold Ztl at e
 split at e
 ·obtain⟨a,ha,e⟩:=Zq e
  obtain⟨x,hx,e⟩:=Zq e
  obtain⟨ns,rfl,hl,hp⟩:=Jf hx
  obtain⟨b,e⟩:=Zv.1 e
  simp only[decide_eq_true_eq] at b
  cases e
  have g2:=Zi2 ns a
  have g3:J4 ns (0+a)=J4 ns a:=by rw[Nat.zero_add]
  rw[Z8 ha,Om,Tz]
  obtain⟨g,hg⟩:∃ g,J4 ns a=g:=⟨_,rfl⟩
  rw[hg] at g2 ⊢
  refine Zg.goes fits Hh (by kernel_rfl) (by kernel_rfl) (by kernel_rfl) (show Tryz.f122.body=some _ from rfl) rfl ?_
  repeat (first|apply Goes.seq|apply Goes.block|apply Goes.loop|apply Goes.skip|apply Goes.exit|apply Goes.ret|((first|apply Goes.Zo|apply Goes.ops2 fits Hh (Zj Zb (fun _ _ _ _=>Zgs Hh))); · simp (maxSteps:=9^6) +decide (disch:=first|omega|(simp only[lens]<;>omega)|decide) only [go_sem,Zd,Za,simprocAttr,hp,hl,hg,U5,Da,bound,Dy,Nat.add_zero,Nat.zero_add]<;>rfl))
  simp (maxSteps:=9^6) +decide (disch:=first|omega|(simp only[lens]<;>omega)|decide) only [go_sem,Zd,Za,simprocAttr]<;>rfl
 ·cases e
theorem Zri {args:List W} {h h':Go.Ev.H} {v:V} (e:Znn args h=some (v,h')):Zg K Tryz.prog 143 args h v h':=by
 unfold Znn at e
 split at e
 ·obtain⟨a,ha,e⟩:=Zq e
  obtain⟨x,hx,e⟩:=Zq e
  obtain⟨ns,rfl,hl,hp⟩:=Jf hx
  obtain⟨b,e⟩:=Zv.1 e
  simp only[decide_eq_true_eq] at b
  cases e
  rw[Z8 ha,Om,Vf]
  refine Zg.goes fits Hh (by kernel_rfl) (by kernel_rfl) (by kernel_rfl) (show Tryz.f143.body=some _ from rfl) rfl ?_
  repeat (first|apply Goes.seq|apply Goes.block|apply Goes.loop|apply Goes.skip|apply Goes.exit|apply Goes.ret|((first|apply Goes.Zo|apply Goes.ops2 fits Hh (Zj Zb (fun _ _ _ _=>Xi Hh))); · simp (maxSteps:=9^6) +decide (disch:=first|omega|(simp only[lens]<;>omega)|decide) only [go_sem,Zd,Za,simprocAttr,hp,hl,U5,Da,bound,Dy,Nat.add_zero,Nat.zero_add]<;>rfl))
  simp (maxSteps:=9^6) +decide (disch:=first|omega|(simp only[lens]<;>omega)|decide) only [go_sem,Zd,Za,simprocAttr]<;>rfl
 ·cases e
theorem Zee {args:List W} {h h':Go.Ev.H} {v:V} (e:Zi8 args h=some (v,h')):Zg K Tryz.prog 166 args h v h':=by
 unfold Zi8 at e
 split at e
 ·rename_i p
  obtain⟨x,hx,e⟩:=Zq e
  obtain⟨ns,rfl,hl,hp⟩:=Jf hx
  obtain⟨b,e⟩:=Zv.1 e
  cases e
  rw[Om,V6]
  refine Zg.tidy ⟨Tryz.f166,Tryz.func166,by kernel_rfl,by decide⟩ fun tidy=>?_
  have hst:=Bp b
  have l0:=tidy _ _ hst
  have l1:=tidy _ _ hp
  obtain⟨v,h',c,rfl,hk⟩:∃ v h',Zg K Tryz.prog 166 [.c (.ptr p 0)] h v h'∧v=.w (.c (.int .u32 ((Sr ns:Nat):Int)))∧∀ m,m<h.next→h'.get m=h.get m:=by
   refine Zg.Yb fits Hh (by kernel_rfl) (by kernel_rfl) (by kernel_rfl) (show Tryz.f166.body=some _ from rfl) rfl ?_
   repeat (first|apply Goes.seq|apply Goes.block|apply Goes.loop|apply Goes.skip|apply Goes.exit|apply Goes.ret|((first|apply Goes.Zo|apply Goes.ops2 fits Hh (Zj Zb (fun _ _ _ _=>Zvk Hh))); · simp (maxSteps:=9^6) +decide (disch:=first|omega|(simp only[lens]<;>omega)|decide) only [go_sem,Zd,Za,simprocAttr,hp,hl,hst,U5,Da,bound,Dy,Nat.add_zero,read1,Yy,Fg,Jp,List.replicate_succ,List.replicate_zero]<;>rfl))
   exact⟨_,_,(by simp (maxSteps:=9^6) +decide (disch:=first|omega|(simp only[lens]<;>omega)|decide) only [go_sem,Zd,Za,simprocAttr]<;>rfl),rfl,fun m hm=>by (first|(simp (discharger:=omega) only [H.get_put,H.Zf,H.Zk,H.Zc,H.Zh,H.Zi,if_neg]; done)|(simp only[H.get_put,H.Zf,H.Zk,H.Zc,H.Zh,H.Zi]; (repeat' split)<;>first|rfl|(exfalso; omega)|omega))⟩
  exact c.quiet rfl hk
 ·cases e
theorem Zsk {args:List W} {h h':Go.Ev.H} {v:V} (e:Znm args h=some (v,h')):Zg K Tryz.prog 134 args h v h':=by
 unfold Znm at e
 split at e
 ·rename_i p
  obtain⟨x,hx,e⟩:=Zq e
  obtain⟨ns,rfl,hl,hp⟩:=Jf hx
  obtain⟨b,e⟩:=Zv.1 e
  cases e
  have hst:=Bp b
  have cl:=Zut ns
  rw[Om,Nh,V6]
  obtain⟨g,hg⟩:∃ g,Sr ns=g:=⟨_,rfl⟩
  rw[hg] at cl ⊢
  refine Zg.goes fits Hh (by kernel_rfl) (by kernel_rfl) (by kernel_rfl) (show Tryz.f134.body=some _ from rfl) rfl ?_
  repeat (first|apply Goes.seq|apply Goes.block|apply Goes.loop|apply Goes.skip|apply Goes.exit|apply Goes.ret|((first|apply Goes.Zo|apply Goes.ops2 fits Hh (Zj (Zj Zb (fun _ _ _ _=>Zee Hh)) (fun _ _ _ _=>Zsj Hh))); · simp (maxSteps:=9^6) +decide (disch:=first|omega|(simp only[lens]<;>omega)|decide) only [go_sem,Zd,Za,simprocAttr,hp,hl,hst,hg]<;>rfl))
  simp (maxSteps:=9^6) +decide (disch:=first|omega|(simp only[lens]<;>omega)|decide) only [go_sem,Zd,Za,simprocAttr]<;>rfl
 ·cases e
theorem Zlo {args:List W} {h h':Go.Ev.H} {v:V} (e:Zen args h=some (v,h')):Zg K Tryz.prog 119 args h v h':=by
 unfold Zen at e
 split at e
 ·rename_i p
  obtain⟨x,hx,e⟩:=Zq e
  obtain⟨ns,rfl,hl,hp⟩:=Jf hx
  obtain⟨b,e⟩:=Zv.1 e
  cases e
  have hst:=Bp b
  rw[Om,V6,Vf]
  refine Zg.goes fits Hh (by kernel_rfl) (by kernel_rfl) (by kernel_rfl) (show Tryz.f119.body=some _ from rfl) rfl ?_
  repeat (first|apply Goes.seq|apply Goes.block|apply Goes.loop|apply Goes.skip|apply Goes.exit|apply Goes.ret|((first|apply Goes.Zo|apply Goes.ops2 fits Hh (Zj (Zj Zb (fun _ _ _ _=>Zri Hh)) (fun _ _ _ _=>Zee Hh))); · simp (maxSteps:=9^6) +decide (disch:=first|omega|(simp only[lens]<;>omega)|decide) only [go_sem,Zd,Za,simprocAttr,hp,hl,hst]<;>rfl))
  simp (maxSteps:=9^6) +decide (disch:=first|omega|(simp only[lens]<;>omega)|decide) only [go_sem,Zd,Za,simprocAttr]<;>rfl
 ·cases e
theorem Ziu {args:List W} {h h':Go.Ev.H} {v:V} (e:Zbo args h=some (v,h')):Zg K Tryz.prog 120 args h v h':=by
 unfold Zbo at e
 split at e
 ·obtain⟨a,ha,e⟩:=Zq e
  obtain⟨b,hb,e⟩:=Zq e
  obtain⟨x,hx,e⟩:=Zq e
  obtain⟨ns,rfl,hl,hp⟩:=Jf hx
  obtain⟨bb,e⟩:=Zv.1 e
  simp only[Bool.and_eq_true,decide_eq_true_eq] at bb
  obtain⟨b1,b2⟩:=bb
  cases e
  rw[Z8 ha,Z8 hb,Om,Ql]
  refine Zg.goes fits Hh (by kernel_rfl) (by kernel_rfl) (by kernel_rfl) (show Tryz.f120.body=some _ from rfl) rfl ?_
  repeat (first|apply Goes.seq|apply Goes.block|apply Goes.loop|apply Goes.skip|apply Goes.exit|apply Goes.ret|((first|apply Goes.Zo|apply Goes.ops2 fits Hh (Zj Zb (fun _ _ _ _=>Zcz Hh))); · simp (maxSteps:=9^6) +decide (disch:=first|omega|(simp only[lens]<;>omega)|decide) only [go_sem,Zd,Za,simprocAttr,hp,hl,U5,Da,bound,Dy,Nat.add_zero,Nat.zero_add,Nat.mul_one]<;>rfl))
  rfl
 ·cases e
end
end Go.Proofs.YtdkcjalmhdofcaaGreatDoor
