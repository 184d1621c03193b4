/- paths.Of: the ways to the first blocks of a file, by the kernel. -/
import Derived.Test.YtgikjeaipmeclaaGreatDoorSli
import Derived.Test.YtgikjeaipmeclaaGreatDoorBeg
import Derived.Test.YtgikjeaipmeclaaGreatDoorEvC
import Derived.KernelRfl
set_option linter.unusedSimpArgs false
set_option linter.unusedVariables false
set_option linter.unusedSectionVars false
set_option maxRecDepth 100000
set_option maxHeartbeats 4000000
namespace Go.Proofs.YtgikjeaipmeclaaGreatDoor
open Go.Ev
def Yq (i:Nat):Nat × List Nat:=if i<8 then (i,[]) else if i<72 then (8,[i - 8]) else (9,[(i - 72) / 64,(i - 72) % 64])
theorem of0:O5 (evX K x00 5000 (.call 40 [.c (.int .i64 0)] ⟨.nil,1⟩))=some ((((Yq 0).1:Nat):Int),rwI (Yq 0).2):=by kernel_rfl
theorem of1:O5 (evX K x00 5000 (.call 40 [.c (.int .i64 1)] ⟨.nil,1⟩))=some ((((Yq 1).1:Nat):Int),rwI (Yq 1).2):=by kernel_rfl
theorem of2:O5 (evX K x00 5000 (.call 40 [.c (.int .i64 2)] ⟨.nil,1⟩))=some ((((Yq 2).1:Nat):Int),rwI (Yq 2).2):=by kernel_rfl
theorem of3:O5 (evX K x00 5000 (.call 40 [.c (.int .i64 3)] ⟨.nil,1⟩))=some ((((Yq 3).1:Nat):Int),rwI (Yq 3).2):=by kernel_rfl
theorem of4:O5 (evX K x00 5000 (.call 40 [.c (.int .i64 4)] ⟨.nil,1⟩))=some ((((Yq 4).1:Nat):Int),rwI (Yq 4).2):=by kernel_rfl
theorem of5:O5 (evX K x00 5000 (.call 40 [.c (.int .i64 5)] ⟨.nil,1⟩))=some ((((Yq 5).1:Nat):Int),rwI (Yq 5).2):=by kernel_rfl
theorem of6:O5 (evX K x00 5000 (.call 40 [.c (.int .i64 6)] ⟨.nil,1⟩))=some ((((Yq 6).1:Nat):Int),rwI (Yq 6).2):=by kernel_rfl
theorem of7:O5 (evX K x00 5000 (.call 40 [.c (.int .i64 7)] ⟨.nil,1⟩))=some ((((Yq 7).1:Nat):Int),rwI (Yq 7).2):=by kernel_rfl
theorem of8:O5 (evX K x00 5000 (.call 40 [.c (.int .i64 8)] ⟨.nil,1⟩))=some ((((Yq 8).1:Nat):Int),rwI (Yq 8).2):=by kernel_rfl
theorem of9:O5 (evX K x00 5000 (.call 40 [.c (.int .i64 9)] ⟨.nil,1⟩))=some ((((Yq 9).1:Nat):Int),rwI (Yq 9).2):=by kernel_rfl
theorem of10:O5 (evX K x00 5000 (.call 40 [.c (.int .i64 10)] ⟨.nil,1⟩))=some ((((Yq 10).1:Nat):Int),rwI (Yq 10).2):=by kernel_rfl
theorem of11:O5 (evX K x00 5000 (.call 40 [.c (.int .i64 11)] ⟨.nil,1⟩))=some ((((Yq 11).1:Nat):Int),rwI (Yq 11).2):=by kernel_rfl
theorem of12:O5 (evX K x00 5000 (.call 40 [.c (.int .i64 12)] ⟨.nil,1⟩))=some ((((Yq 12).1:Nat):Int),rwI (Yq 12).2):=by kernel_rfl
theorem of13:O5 (evX K x00 5000 (.call 40 [.c (.int .i64 13)] ⟨.nil,1⟩))=some ((((Yq 13).1:Nat):Int),rwI (Yq 13).2):=by kernel_rfl
theorem of14:O5 (evX K x00 5000 (.call 40 [.c (.int .i64 14)] ⟨.nil,1⟩))=some ((((Yq 14).1:Nat):Int),rwI (Yq 14).2):=by kernel_rfl
theorem of15:O5 (evX K x00 5000 (.call 40 [.c (.int .i64 15)] ⟨.nil,1⟩))=some ((((Yq 15).1:Nat):Int),rwI (Yq 15).2):=by kernel_rfl
theorem of16:O5 (evX K x00 5000 (.call 40 [.c (.int .i64 16)] ⟨.nil,1⟩))=some ((((Yq 16).1:Nat):Int),rwI (Yq 16).2):=by kernel_rfl
theorem of17:O5 (evX K x00 5000 (.call 40 [.c (.int .i64 17)] ⟨.nil,1⟩))=some ((((Yq 17).1:Nat):Int),rwI (Yq 17).2):=by kernel_rfl
theorem of18:O5 (evX K x00 5000 (.call 40 [.c (.int .i64 18)] ⟨.nil,1⟩))=some ((((Yq 18).1:Nat):Int),rwI (Yq 18).2):=by kernel_rfl
theorem of19:O5 (evX K x00 5000 (.call 40 [.c (.int .i64 19)] ⟨.nil,1⟩))=some ((((Yq 19).1:Nat):Int),rwI (Yq 19).2):=by kernel_rfl
theorem of20:O5 (evX K x00 5000 (.call 40 [.c (.int .i64 20)] ⟨.nil,1⟩))=some ((((Yq 20).1:Nat):Int),rwI (Yq 20).2):=by kernel_rfl
theorem of21:O5 (evX K x00 5000 (.call 40 [.c (.int .i64 21)] ⟨.nil,1⟩))=some ((((Yq 21).1:Nat):Int),rwI (Yq 21).2):=by kernel_rfl
theorem of22:O5 (evX K x00 5000 (.call 40 [.c (.int .i64 22)] ⟨.nil,1⟩))=some ((((Yq 22).1:Nat):Int),rwI (Yq 22).2):=by kernel_rfl
theorem of23:O5 (evX K x00 5000 (.call 40 [.c (.int .i64 23)] ⟨.nil,1⟩))=some ((((Yq 23).1:Nat):Int),rwI (Yq 23).2):=by kernel_rfl
theorem of24:O5 (evX K x00 5000 (.call 40 [.c (.int .i64 24)] ⟨.nil,1⟩))=some ((((Yq 24).1:Nat):Int),rwI (Yq 24).2):=by kernel_rfl
theorem of25:O5 (evX K x00 5000 (.call 40 [.c (.int .i64 25)] ⟨.nil,1⟩))=some ((((Yq 25).1:Nat):Int),rwI (Yq 25).2):=by kernel_rfl
theorem of26:O5 (evX K x00 5000 (.call 40 [.c (.int .i64 26)] ⟨.nil,1⟩))=some ((((Yq 26).1:Nat):Int),rwI (Yq 26).2):=by kernel_rfl
theorem of27:O5 (evX K x00 5000 (.call 40 [.c (.int .i64 27)] ⟨.nil,1⟩))=some ((((Yq 27).1:Nat):Int),rwI (Yq 27).2):=by kernel_rfl
theorem of28:O5 (evX K x00 5000 (.call 40 [.c (.int .i64 28)] ⟨.nil,1⟩))=some ((((Yq 28).1:Nat):Int),rwI (Yq 28).2):=by kernel_rfl
theorem of29:O5 (evX K x00 5000 (.call 40 [.c (.int .i64 29)] ⟨.nil,1⟩))=some ((((Yq 29).1:Nat):Int),rwI (Yq 29).2):=by kernel_rfl
theorem of30:O5 (evX K x00 5000 (.call 40 [.c (.int .i64 30)] ⟨.nil,1⟩))=some ((((Yq 30).1:Nat):Int),rwI (Yq 30).2):=by kernel_rfl
theorem of31:O5 (evX K x00 5000 (.call 40 [.c (.int .i64 31)] ⟨.nil,1⟩))=some ((((Yq 31).1:Nat):Int),rwI (Yq 31).2):=by kernel_rfl
theorem of32:O5 (evX K x00 5000 (.call 40 [.c (.int .i64 32)] ⟨.nil,1⟩))=some ((((Yq 32).1:Nat):Int),rwI (Yq 32).2):=by kernel_rfl
theorem of33:O5 (evX K x00 5000 (.call 40 [.c (.int .i64 33)] ⟨.nil,1⟩))=some ((((Yq 33).1:Nat):Int),rwI (Yq 33).2):=by kernel_rfl
theorem of34:O5 (evX K x00 5000 (.call 40 [.c (.int .i64 34)] ⟨.nil,1⟩))=some ((((Yq 34).1:Nat):Int),rwI (Yq 34).2):=by kernel_rfl
theorem of35:O5 (evX K x00 5000 (.call 40 [.c (.int .i64 35)] ⟨.nil,1⟩))=some ((((Yq 35).1:Nat):Int),rwI (Yq 35).2):=by kernel_rfl
theorem Z3c:∀ i:Nat,i<36→O5 (evX K x00 5000 (.call 40 [.c (.int .i64 (i:Int))] ⟨.nil,1⟩))=some ((((Yq i).1:Nat):Int),rwI (Yq i).2)
 | 0,_=>of0
 | 1,_=>of1
 | 2,_=>of2
 | 3,_=>of3
 | 4,_=>of4
 | 5,_=>of5
 | 6,_=>of6
 | 7,_=>of7
 | 8,_=>of8
 | 9,_=>of9
 | 10,_=>of10
 | 11,_=>of11
 | 12,_=>of12
 | 13,_=>of13
 | 14,_=>of14
 | 15,_=>of15
 | 16,_=>of16
 | 17,_=>of17
 | 18,_=>of18
 | 19,_=>of19
 | 20,_=>of20
 | 21,_=>of21
 | 22,_=>of22
 | 23,_=>of23
 | 24,_=>of24
 | 25,_=>of25
 | 26,_=>of26
 | 27,_=>of27
 | 28,_=>of28
 | 29,_=>of29
 | 30,_=>of30
 | 31,_=>of31
 | 32,_=>of32
 | 33,_=>of33
 | 34,_=>of34
 | 35,_=>of35
 | n+36,h=>by omega
theorem Zng {i:Nat} (h:i<36):(Yq i).1<11∧∀ w∈(Yq i).2,w<64:=by
 unfold Yq
 split
 ·exact⟨by show i<11; omega,fun w hw=>by simp at hw⟩
 ·split
  ·exact⟨by show 8<11; omega,fun w hw=>by simp at hw; omega⟩
  ·omega
section
variable (Hh:Hearts K Tryz.prog)
include Hh
theorem Z0h {i:Nat} (hi:i<36) {h:Go.Ev.H} (h0:0<h.next):∃ h' s,Ze K Tryz.prog 40 [.c (.int .i64 (i:Int))] h (.tup [.c (.int .i64 ((Yq i).1:Nat)),.c s,.c (.int .i64 0)]) h'∧h.next≤h'.next∧(∀ m,m<h.next→h'.get m=h.get m)∧SlI h' s (Yq i).2∧∀ p o n z,s=.slice p o n z→h.next≤p∧p<h'.next:=by
 obtain⟨h',s,c,n,k,r⟩:=Ze.Zyn fits Hh Zer gl (Z3c i hi) rfl h h0
 refine⟨h',s,c,n,k,?_,fun p o l z e=>?_⟩
 ·rcases r with ⟨e,rfl⟩|⟨q,q1,q2,rfl,ho,el⟩
  ·left
   refine⟨?_,rfl⟩
   have:=congrArg List.length e
   rw[Zo2] at this
   exact List.eq_nil_of_length_eq_zero this
  ·rw[Zo2] at el ⊢
   exact .inr ⟨q,el,rfl,ho⟩
 ·rcases r with ⟨_,rfl⟩|⟨q,q1,q2,rfl,ho,el⟩
  ·cases e
  ·cases e; exact⟨q1,q2⟩
theorem Z3y {h:Go.Ev.H} (h0:0<h.next):∃ h',Ze K Tryz.prog 40 [.c (.int .i64 (-1))] h (.tup [.c (.int .i64 0),.c .snil,.c (.int .i64 100)]) h'∧h.next≤h'.next∧∀ m,m<h.next→h'.get m=h.get m :=
 ⟨h,Ze.closed fits Hh Zer gl (n:=3000) (by kernel_rfl) rfl rfl h,Nat.le_refl _,fun _ _=>rfl⟩
end
section
variable (Hh:Hearts K Tryz.prog)
include Hh
set_option maxHeartbeats 4000000 in
theorem Zw5 {args:List W} {h h':Go.Ev.H} {v:V} (e:Zvi args h=some (v,h')):Ze K Tryz.prog 25 args h v h':=by
 unfold Zvi at e
 split at e
 ·rename_i d a0 b0 c0 e0 md q
  obtain⟨a,ha,e⟩:=Zl e
  obtain⟨b,hb,e⟩:=Zl e
  obtain⟨c,hc,e⟩:=Zl e
  obtain⟨j,hj,e⟩:=Zl e
  obtain⟨D,hd,e⟩:=Zl e
  obtain⟨hd,n0,n1⟩:=Uu hd
  obtain⟨f,e⟩:=Zq.1 e
  simp only[Bool.and_eq_true,decide_eq_true_eq] at f
  obtain⟨⟨⟨⟨⟨fb,nn⟩,m1⟩,m3⟩,q1⟩,q2⟩:=f
  have nn:=Nat.le_of_ble_eq_true nn
  have F:=Yk fb
  obtain⟨g1,g2,g3,g4,g5,g6,g7,g8,g9,g10,g11⟩:=F
  cases e
  rw[Yb ha,Yb hb,Yb hc,Yb hj]
  refine Ze.tidy ⟨Tryz.f25,Tryz.func25,by kernel_rfl,by decide⟩ fun tidy=>?_
  have l1:=tidy _ _ hd
  have h3:md=1∨md=2∨md=3:=by omega
  rcases h3 with rfl|rfl|rfl
  ·
   refine Ze.goes fits Hh (by kernel_rfl) (by kernel_rfl) (by kernel_rfl) (show Tryz.f25.body=some _ from rfl) rfl ?_
   repeat (first|apply Goes.seq|apply Goes.block|apply Goes.loop|apply Goes.skip|apply Goes.exit|apply Goes.ret|((first|apply Goes.Zm|apply Goes.ops2 fits Hh (Zf (Zf (Zf (Zf (Zf (Zf (Zf (Zf Zc (fun _ _ _ _=>Gg Hh)) (fun _ _ _ _=>Gm Hh)) (fun _ _ _ _=>Dg Hh)) (fun _ _ _ _=>Nl Hh)) (fun _ _ _ _=>Rc Hh)) (fun _ _ _ _=>Nj Hh)) (fun _ _ _ _=>Nc Hh)) (fun _ _ _ _=>Da Hh))); · simp (maxSteps:=9^6) +decide (disch:=first|omega|(simp only[lens]<;>omega)|decide) only [go_sem,Zb,Za,simprocAttr,hd,fb,Zx,read1,Z4]<;>rfl)|(apply Goes.drawn2 fits Hh (Zf (Zf (Zf (Zf (Zf (Zf (Zf (Zf Zc (fun _ _ _ _=>Gg Hh)) (fun _ _ _ _=>Gm Hh)) (fun _ _ _ _=>Dg Hh)) (fun _ _ _ _=>Nl Hh)) (fun _ _ _ _=>Rc Hh)) (fun _ _ _ _=>Nj Hh)) (fun _ _ _ _=>Nc Hh)) (fun _ _ _ _=>Da Hh)) (by kernel_rfl); · simp (maxSteps:=9^6) +decide (disch:=first|omega|(simp only[lens]<;>omega)|decide) only [go_sem,Zb,Za,simprocAttr,drG,hd,fb,Zx,read1,Z4]<;>rfl))
   simp (maxSteps:=9^6) +decide (disch:=first|omega|(simp only[lens]<;>omega)|decide) only [go_sem,Zb,Za,simprocAttr,Sm,Yn,gdL]<;>rfl
  ·
   refine Ze.goes fits Hh (by kernel_rfl) (by kernel_rfl) (by kernel_rfl) (show Tryz.f25.body=some _ from rfl) rfl ?_
   repeat (first|apply Goes.seq|apply Goes.block|apply Goes.loop|apply Goes.skip|apply Goes.exit|apply Goes.ret|((first|apply Goes.Zm|apply Goes.ops2 fits Hh (Zf (Zf (Zf (Zf (Zf (Zf (Zf (Zf Zc (fun _ _ _ _=>Gg Hh)) (fun _ _ _ _=>Gm Hh)) (fun _ _ _ _=>Dg Hh)) (fun _ _ _ _=>Nl Hh)) (fun _ _ _ _=>Rc Hh)) (fun _ _ _ _=>Nj Hh)) (fun _ _ _ _=>Nc Hh)) (fun _ _ _ _=>Da Hh))); · simp (maxSteps:=9^6) +decide (disch:=first|omega|(simp only[lens]<;>omega)|decide) only [go_sem,Zb,Za,simprocAttr,hd,fb,Zx,read1,Z4]<;>rfl)|(apply Goes.drawn2 fits Hh (Zf (Zf (Zf (Zf (Zf (Zf (Zf (Zf Zc (fun _ _ _ _=>Gg Hh)) (fun _ _ _ _=>Gm Hh)) (fun _ _ _ _=>Dg Hh)) (fun _ _ _ _=>Nl Hh)) (fun _ _ _ _=>Rc Hh)) (fun _ _ _ _=>Nj Hh)) (fun _ _ _ _=>Nc Hh)) (fun _ _ _ _=>Da Hh)) (by kernel_rfl); · simp (maxSteps:=9^6) +decide (disch:=first|omega|(simp only[lens]<;>omega)|decide) only [go_sem,Zb,Za,simprocAttr,drG,hd,fb,Zx,read1,Z4]<;>rfl))
   simp (maxSteps:=9^6) +decide (disch:=first|omega|(simp only[lens]<;>omega)|decide) only [go_sem,Zb,Za,simprocAttr,Sm,Yn,gdL]<;>rfl
  ·
   refine Ze.goes fits Hh (by kernel_rfl) (by kernel_rfl) (by kernel_rfl) (show Tryz.f25.body=some _ from rfl) rfl ?_
   repeat (first|apply Goes.seq|apply Goes.block|apply Goes.loop|apply Goes.skip|apply Goes.exit|apply Goes.ret|((first|apply Goes.Zm|apply Goes.ops2 fits Hh (Zf (Zf (Zf (Zf (Zf (Zf (Zf (Zf Zc (fun _ _ _ _=>Gg Hh)) (fun _ _ _ _=>Gm Hh)) (fun _ _ _ _=>Dg Hh)) (fun _ _ _ _=>Nl Hh)) (fun _ _ _ _=>Rc Hh)) (fun _ _ _ _=>Nj Hh)) (fun _ _ _ _=>Nc Hh)) (fun _ _ _ _=>Da Hh))); · simp (maxSteps:=9^6) +decide (disch:=first|omega|(simp only[lens]<;>omega)|decide) only [go_sem,Zb,Za,simprocAttr,hd,fb,Zx,read1,Z4]<;>rfl)|(apply Goes.drawn2 fits Hh (Zf (Zf (Zf (Zf (Zf (Zf (Zf (Zf Zc (fun _ _ _ _=>Gg Hh)) (fun _ _ _ _=>Gm Hh)) (fun _ _ _ _=>Dg Hh)) (fun _ _ _ _=>Nl Hh)) (fun _ _ _ _=>Rc Hh)) (fun _ _ _ _=>Nj Hh)) (fun _ _ _ _=>Nc Hh)) (fun _ _ _ _=>Da Hh)) (by kernel_rfl); · simp (maxSteps:=9^6) +decide (disch:=first|omega|(simp only[lens]<;>omega)|decide) only [go_sem,Zb,Za,simprocAttr,drG,hd,fb,Zx,read1,Z4]<;>rfl))
   simp (maxSteps:=9^6) +decide (disch:=first|omega|(simp only[lens]<;>omega)|decide) only [go_sem,Zb,Za,simprocAttr,Sm,Yn,gdL]<;>rfl
 ·cases e
end
attribute [go_sem] Zvi
theorem rs74:Tryz.f74.results.toList=[.cell 4 178]:=rfl
theorem rs34:Tryz.f34.results.toList=[.tmp 6]:=rfl
theorem rs11:Tryz.f11.results.toList=[.tmp 6]:=rfl
attribute [go_sem] rs74 rs34 rs11
noncomputable def Du (h:Go.Ev.H):Go.Ev.H:=((((((h.new (.row 4 [[.mnil,.mnil,.mnil,.pnil]] false)).new (.map [])).new (.row 1 [[.map (h.next+1)]] false)).new (.map [])).new (.map [])).new (.map [])).put h.next (.row 4 [[.map (h.next+1+1+1),.map (h.next+1+1+1+1),.map (h.next+1+1+1+1+1),.ptr (h.next+1+1) 0]] false)
noncomputable def Zoa:Kn1:=fun args h=>match args with
 | [.c (.ptr t 0),.c (.int .u32 _)]=>(Uo h t).bind fun X=>(N8 h X.rv).bind fun m=>Yr (Ga h m&&Ga h X.ch&&Ga h X.od&&Ga h X.fr) (some (.w (.g [.map (h.next+1+1+1),.map (h.next+1+1+1+1),.map (h.next+1+1+1+1+1),.ptr (h.next+1+1) 0]),Du h))
 | _=>none
noncomputable def Zcn (h:Go.Ev.H) (t:Nat) (X:Tx) (c r:Int):Go.Ev.H :=
 (Du ((((((h.put t (.row 13 [txL { X with op:=true }] false)).put t (.row 13 [txL { X with op:=true,cr:=c }] false)).put t (.row 13 [txL { X with op:=true,cr:=c,rk:=r }] false)).new (.map [])).put t (.row 13 [txL { X with op:=true,cr:=c,rk:=r,to:=.map h.next }] false)))).put t (.row 13 [txL { X with op:=true,cr:=c,rk:=r,to:=.map h.next,b1:=.map (h.next+1+1+1+1),b2:=.map (h.next+1+1+1+1+1),b3:=.map (h.next+1+1+1+1+1+1),b4:=.ptr (h.next+1+1+1) 0 }] false)
noncomputable def Zit:Kn1:=fun args h=>match args with
 | [.c (.ptr t 0),.c (.int .i64 c),.c (.int .i64 r)]=>(Uo h t).bind fun X=>(N8 h X.rv).bind fun m=>Yr (!X.op&&decide (0≤c)&&decide (0≤r)&&Ga h m&&Ga h X.ch&&Ga h X.od&&Ga h X.fr) (some (.w (.c (.int .i64 0)),Zcn h t X c r))
 | _=>none
noncomputable def Li (h:Go.Ev.H) (s:Nat) (S:Stt):Go.Ev.H:=((((h.new (.map [])).put s (.row 8 [stL { S with dt:=h.next }] false)).new (.map [])).put s (.row 8 [stL { S with dt:=h.next,gv:=h.next+1 }] false)).put s (.row 8 [stL { S with dt:=h.next,gv:=h.next+1,kn:=false }] false)
noncomputable def Qu:Kn1:=fun args h=>match args with
 | [.c (.ptr s 0),.c (.int .i64 c),.c (.int .i64 r)]=>(Ot h s).bind fun S=>(Uo h S.tx).bind fun X=>(Bn h S.gd).bind fun G=>(N8 h X.rv).bind fun m=>(Zgp c r).bind fun n=>Yr (decide (n≤(G.jr:Int) - 1)&&!X.op&&decide (X.sq≤2147483648)&&Ga h m&&Ga h X.ch&&Ga h X.od&&Ga h X.fr) (some (.w (.c (.int .i64 0)),Zcn (Li h s S) S.tx X c r))
 | _=>none
attribute [go_sem] Zoa Zit Qu
theorem Zlp:Yu K 22 (.c .snil)=true:=by kernel_rfl
attribute [go_sem] Zlp
section
variable (Hh:Hearts K Tryz.prog)
include Hh
theorem Zge {args:List W} {h h':Go.Ev.H} {v:V} (e:Zoa args h=some (v,h')):Ze K Tryz.prog 74 args h v h':=by
 unfold Zoa at e
 split at e
 ·rename_i t q
  obtain⟨X,ht,e⟩:=Zl e
  have ht:=Ym ht
  obtain⟨m,hr,e⟩:=Zl e
  have hr:=Uv hr
  obtain⟨b,e⟩:=Zq.1 e
  cases e
  simp only[Bool.and_eq_true] at b
  obtain⟨⟨⟨b1,b2⟩,b3⟩,b4⟩:=b
  have hm:=Yt b1
  have hc:=Yt b2
  have ho:=Yt b3
  have hf:=Yt b4
  refine Ze.tidy ⟨Tryz.f74,Tryz.func74,by kernel_rfl,by decide⟩ fun tidy=>?_
  have l1:=tidy _ _ ht
  have l2:=tidy _ _ hr
  have l3:=tidy _ _ hm
  have l4:=tidy _ _ hc
  have l5:=tidy _ _ ho
  have l6:=tidy _ _ hf
  refine Ze.goes fits Hh (by kernel_rfl) (by kernel_rfl) (by kernel_rfl) (show Tryz.f74.body=some _ from rfl) rfl ?_
  repeat (first|apply Goes.seq|apply Goes.block|apply Goes.loop|apply Goes.skip|apply Goes.exit|apply Goes.ret|((first|apply Goes.Zm|apply Goes.ops2 fits Hh (Zf (Zf (Zf (Zf Zc (fun _ _ _ _=>Zbu Hh)) (fun _ _ _ _=>Zc2 Hh)) (fun _ _ _ _=>Zdd Hh)) (fun _ _ _ _=>Zdy Hh))); · simp (maxSteps:=9^6) +decide (disch:=first|omega|(simp only[lens]<;>omega)|decide) only [go_sem,Zb,Za,simprocAttr,ht,hr,hm,hc,ho,hf,read1,Zh,Ye,Z4]<;>rfl)|(apply Goes.drawn2 fits Hh (Zf (Zf (Zf (Zf Zc (fun _ _ _ _=>Zbu Hh)) (fun _ _ _ _=>Zc2 Hh)) (fun _ _ _ _=>Zdd Hh)) (fun _ _ _ _=>Zdy Hh)) (by kernel_rfl); · simp (maxSteps:=9^6) +decide (disch:=first|omega|(simp only[lens]<;>omega)|decide) only [go_sem,Zb,Za,simprocAttr,drG,ht,hr,hm,hc,ho,hf,read1,Zh,Ye,Z4]<;>rfl))
  simp (maxSteps:=9^6) +decide (disch:=first|omega|(simp only[lens]<;>omega)|decide) only [go_sem,Zb,Za,simprocAttr,Du]<;>rfl
 ·cases e
set_option maxHeartbeats 1000000 in
theorem Zo0 {args:List W} {h h':Go.Ev.H} {v:V} (e:Zit args h=some (v,h')):Ze K Tryz.prog 34 args h v h':=by
 unfold Zit at e
 split at e
 ·rename_i t c r
  obtain⟨X,ht,e⟩:=Zl e
  have ht:=Ym ht
  obtain⟨m,hr,e⟩:=Zl e
  have hr:=Uv hr
  obtain⟨b,e⟩:=Zq.1 e
  cases e
  simp only[Bool.and_eq_true,decide_eq_true_eq,Bool.not_eq_true'] at b
  obtain⟨⟨⟨⟨⟨⟨bo,c0⟩,r0⟩,b1⟩,b2⟩,b3⟩,b4⟩:=b
  have hm:=Yt b1
  have hc:=Yt b2
  have ho:=Yt b3
  have hf:=Yt b4
  refine Ze.tidy ⟨Tryz.f34,Tryz.func34,by kernel_rfl,by decide⟩ fun tidy=>?_
  have l1:=tidy _ _ ht
  have l2:=tidy _ _ hr
  have l3:=tidy _ _ hm
  have l4:=tidy _ _ hc
  have l5:=tidy _ _ ho
  have l6:=tidy _ _ hf
  have n2:X.rv≠t:=fun e1=>by rw[e1,ht] at hr; cases hr
  have n3:m≠t:=fun e1=>by rw[e1,ht] at hm; cases hm
  have n4:X.ch≠t:=fun e1=>by rw[e1,ht] at hc; cases hc
  have n5:X.od≠t:=fun e1=>by rw[e1,ht] at ho; cases ho
  have n6:X.fr≠t:=fun e1=>by rw[e1,ht] at hf; cases hf
  refine Ze.goes fits Hh (by kernel_rfl) (by kernel_rfl) (by kernel_rfl) (show Tryz.f34.body=some _ from rfl) rfl ?_
  repeat (first|apply Goes.seq|apply Goes.block|apply Goes.loop|apply Goes.skip|apply Goes.exit|apply Goes.ret|((first|apply Goes.Zm|apply Goes.ops2 fits Hh (Zf (Zf Zc (fun _ _ _ _=>O0 Hh)) (fun _ _ _ _=>Zge Hh))); · simp (maxSteps:=9^6) +decide (disch:=first|omega|(simp only[lens]<;>omega)|decide) only [go_sem,Zb,Za,simprocAttr,ht,bo,hr,hm,hc,ho,hf,read1,Z4,Du]<;>rfl)|(apply Goes.drawn2 fits Hh (Zf (Zf Zc (fun _ _ _ _=>O0 Hh)) (fun _ _ _ _=>Zge Hh)) (by kernel_rfl); · simp (maxSteps:=9^6) +decide (disch:=first|omega|(simp only[lens]<;>omega)|decide) only [go_sem,Zb,Za,simprocAttr,drG,ht,bo,hr,hm,hc,ho,hf,read1,Z4,Du]<;>rfl))
  simp (maxSteps:=9^6) +decide (disch:=first|omega|(simp only[lens]<;>omega)|decide) only [go_sem,Zb,Za,simprocAttr,Zcn,Du]<;>rfl
 ·cases e
end
section
variable (Hh:Hearts K Tryz.prog)
include Hh
set_option maxHeartbeats 4000000 in
theorem Zoq {args:List W} {h h':Go.Ev.H} {v:V} (e:Qu args h=some (v,h')):Ze K Tryz.prog 11 args h v h':=by
 unfold Qu at e
 split at e
 ·rename_i s c r
  obtain⟨S,hs,e⟩:=Zl e
  have hs:=Yx hs
  obtain⟨X,ht,e⟩:=Zl e
  have ht:=Ym ht
  obtain⟨G,hg,e⟩:=Zl e
  obtain⟨hg,fb⟩:=Ja hg
  obtain⟨m,hr,e⟩:=Zl e
  have hr:=Uv hr
  obtain⟨n,hn,e⟩:=Zl e
  obtain⟨b,e⟩:=Zq.1 e
  cases e
  simp only[Bool.and_eq_true,decide_eq_true_eq,Bool.not_eq_true'] at b
  obtain⟨⟨⟨⟨⟨⟨bn,bo⟩,sq⟩,b1⟩,b2⟩,b3⟩,b4⟩:=b
  have hm:=Yt b1
  have hc:=Yt b2
  have ho:=Yt b3
  have hf:=Yt b4
  have F:=Yk fb
  obtain⟨g1,g2,g3,g4,g5,g6,g7,g8,g9,g10,g11⟩:=F
  refine Ze.tidy ⟨Tryz.f11,Tryz.func11,by kernel_rfl,by decide⟩ fun tidy=>?_
  have l1:=tidy _ _ ht
  have l2:=tidy _ _ hr
  have l3:=tidy _ _ hm
  have l4:=tidy _ _ hc
  have l5:=tidy _ _ ho
  have l6:=tidy _ _ hf
  have l7:=tidy _ _ hs
  have l8:=tidy _ _ hg
  have n1:S.tx≠s:=fun e1=>by rw[e1,hs] at ht; cases ht
  have n2:X.rv≠s:=fun e1=>by rw[e1,hs] at hr; cases hr
  have n3:m≠s:=fun e1=>by rw[e1,hs] at hm; cases hm
  have n4:X.ch≠s:=fun e1=>by rw[e1,hs] at hc; cases hc
  have n5:X.od≠s:=fun e1=>by rw[e1,hs] at ho; cases ho
  have n6:X.fr≠s:=fun e1=>by rw[e1,hs] at hf; cases hf
  obtain⟨c0,c1,r0,r1,nn⟩:=Wo hn
  refine Ze.goes fits Hh (by kernel_rfl) (by kernel_rfl) (by kernel_rfl) (show Tryz.f11.body=some _ from rfl) rfl ?_
  repeat (first|apply Goes.seq|apply Goes.block|apply Goes.loop|apply Goes.skip|apply Goes.exit|apply Goes.ret|((first|apply Goes.Zm|apply Goes.ops2 fits Hh (Zf (Zf (Zf (Zf (Zf (Zf (Zf Zc (fun _ _ _ _=>Ut Hh)) (fun _ _ _ _=>Ztj Hh)) (fun _ _ _ _=>Zbs Hh)) (fun _ _ _ _=>Zkp Hh)) (fun _ _ _ _=>Zt3 Hh)) (fun _ _ _ _=>Da Hh)) (fun _ _ _ _=>Zo0 Hh))); · simp (maxSteps:=9^6) +decide (disch:=first|omega|(simp only[lens]<;>omega)|decide) only [go_sem,Zb,Za,simprocAttr,hn,hs,ht,bo,hg,gdL,fb,hr,hm,hc,ho,hf,read1]<;>rfl))
  simp (maxSteps:=9^6) +decide (disch:=first|omega|(simp only[lens]<;>omega)|decide) only [go_sem,Zb,Za,simprocAttr,Li]<;>rfl
 ·cases e
end
end Go.Proofs.YtgikjeaipmeclaaGreatDoor
