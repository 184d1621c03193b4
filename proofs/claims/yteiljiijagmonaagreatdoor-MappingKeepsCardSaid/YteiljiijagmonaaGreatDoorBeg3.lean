/- store.New. -/
import Derived.Test.YteiljiijagmonaaGreatDoorBeg
set_option maxRecDepth 100000
set_option maxHeartbeats 4000000
set_option linter.unusedSimpArgs false
set_option linter.unusedVariables false
set_option linter.unusedSectionVars false
namespace Go.Proofs.YteiljiijagmonaaGreatDoor
open Go.Ev
noncomputable section
section
variable (Hh:Hearts K Tryz.prog)
include Hh
set_option maxHeartbeats 4000000 in
theorem Z10 {args:List W} {h h':Hq} {v:V} (e:Z1z args h=some (v,h')):Zi 49 args h v h':=by
 unfold Z1z at e
 split at e
 ·rename_i d a0 b0 c0 e0 md q
  obtain⟨a,ha,e⟩:=Zj e
  obtain⟨b,hb,e⟩:=Zj e
  obtain⟨c,hc,e⟩:=Zj e
  obtain⟨j,hj,e⟩:=Zj e
  obtain⟨D,hd,e⟩:=Zj e
  obtain⟨hd,n0,n1⟩:=Uy hd
  obtain⟨f,e⟩:=Zq.1 e
  simp only[aQ,decide_eq_true_eq] at f
  obtain⟨⟨⟨⟨⟨fb,nn⟩,m1⟩,m3⟩,q1⟩,q2⟩:=f
  have nn:=lQ nn
  have F:=Ya fb
  obtain⟨g1,g2,g3,g4,g5,g6,g7,g8,g9,g10,g11⟩:=F
  cases e
  rw[Yd ha,Yd hb,Yd hc,Yd hj]
  refine Zy.tidy ⟨Tryz.f49,Tryz.func49,kR,by decide⟩ fun tidy=>?_
  have l1:=tidy _ _ hd
  have h3:md=1\/md=2\/md=3:=oM
  rcases h3 with rfl|rfl|rfl
  ·
   refine fnG Hh Tryz.f49 ?_
   have Jf:=Jl @hd @fb
   repeat (first|apply Zu|apply Jc|apply Ye|apply Yc|refine Goes.Zl Zac ?_|refine Zr Hh (EY (EY (EY (EY (EY (EY (EY (EY Za (Bf Hh)) (Br Hh)) (Fs Hh)) (Vi Hh)) (Vm Hh)) (Vj Hh)) (Vs Hh)) (Oe Hh)) Zac ?_|refine G6 Hh (EY (EY (EY (EY (EY (EY (EY (EY Za (Bf Hh)) (Br Hh)) (Fs Hh)) (Vi Hh)) (Vm Hh)) (Vj Hh)) (Vs Hh)) (Oe Hh)) Zgj ?_)
   simp (maxSteps:=9^6) +decide (disch:=first|exact dZ|fail) only [go_sem,Zk,Zh,simprocAttr,X6,Jr,gdL]<;>rfl
  ·
   refine fnG Hh Tryz.f49 ?_
   have Jf:=Jl @hd @fb
   repeat (first|apply Zu|apply Jc|apply Ye|apply Yc|refine Goes.Zl Zac ?_|refine Zr Hh (EY (EY (EY (EY (EY (EY (EY (EY Za (Bf Hh)) (Br Hh)) (Fs Hh)) (Vi Hh)) (Vm Hh)) (Vj Hh)) (Vs Hh)) (Oe Hh)) Zac ?_|refine G6 Hh (EY (EY (EY (EY (EY (EY (EY (EY Za (Bf Hh)) (Br Hh)) (Fs Hh)) (Vi Hh)) (Vm Hh)) (Vj Hh)) (Vs Hh)) (Oe Hh)) Zgj ?_)
   simp (maxSteps:=9^6) +decide (disch:=first|exact dZ|fail) only [go_sem,Zk,Zh,simprocAttr,X6,Jr,gdL]<;>rfl
  ·
   refine fnG Hh Tryz.f49 ?_
   have Jf:=Jl @hd @fb
   repeat (first|apply Zu|apply Jc|apply Ye|apply Yc|refine Goes.Zl Zac ?_|refine Zr Hh (EY (EY (EY (EY (EY (EY (EY (EY Za (Bf Hh)) (Br Hh)) (Fs Hh)) (Vi Hh)) (Vm Hh)) (Vj Hh)) (Vs Hh)) (Oe Hh)) Zac ?_|refine G6 Hh (EY (EY (EY (EY (EY (EY (EY (EY Za (Bf Hh)) (Br Hh)) (Fs Hh)) (Vi Hh)) (Vm Hh)) (Vj Hh)) (Vs Hh)) (Oe Hh)) Zgj ?_)
   simp (maxSteps:=9^6) +decide (disch:=first|exact dZ|fail) only [go_sem,Zk,Zh,simprocAttr,X6,Jr,gdL]<;>rfl
 ·cases e
end
attribute [go_sem] Z1z
noncomputable def q8 (p:Lq):Code:=piece p (Ug Tryz.f8)
noncomputable def q69 (p:Lq):Code:=piece p (Ug Tryz.f69)
theorem rs69:Tryz.f69.results.toList=[.cell 4 146]:=rfl
theorem rs28:Tryz.f28.results.toList=[.tmp 6]:=rfl
theorem rs8:Tryz.f8.results.toList=[.tmp 6]:=rfl
attribute [go_sem] rs69 rs28 rs8
def Wz (h:Hq):Hq:=((((((h.new (.row 4 [[.mnil,.mnil,.mnil,.pnil]] false)).new (.map [])).new (.row 1 [[.map (h.next+1)]] false)).new (.map [])).new (.map [])).new (.map [])).put h.next (.row 4 [[.map (h.next+1+1+1),.map (h.next+1+1+1+1),.map (h.next+1+1+1+1+1),.ptr (h.next+1+1) 0]] false)
def Zls (h:Hq) (t:Nat) (X:Tx) (c r:Int):Hq :=
 (Wz ((((((h.put t (.row 13 [txL { X with op:=true }] false)).put t (.row 13 [txL { X with op:=true,cr:=c }] false)).put t (.row 13 [txL { X with op:=true,cr:=c,rk:=r }] false)).new (.map [])).put t (.row 13 [txL { X with op:=true,cr:=c,rk:=r,to:=.map h.next }] false)))).put t (.row 13 [txL { X with op:=true,cr:=c,rk:=r,to:=.map h.next,b1:=.map (h.next+1+1+1+1),b2:=.map (h.next+1+1+1+1+1),b3:=.map (h.next+1+1+1+1+1+1),b4:=.ptr (h.next+1+1+1) 0 }] false)
def Jm (h:Hq) (s:Nat) (S:Stt):Hq:=((((h.new (.map [])).put s (.row 8 [stL { S with dt:=h.next }] false)).new (.map [])).put s (.row 8 [stL { S with dt:=h.next,gv:=h.next+1 }] false)).put s (.row 8 [stL { S with dt:=h.next,gv:=h.next+1,kn:=false }] false)
def Znp:Kn1:=fun args h=>match args with
 | [.c (.ptr s 0),.c (.int .i64 c),.c (.int .i64 r)]=>(Da h s).bind fun S=>(Uf h S.tx).bind fun X=>(Mj h S.gd).bind fun G=>(Ee h X.rv).bind fun m=>(Bq c r).bind fun n=>Yt (decide (n<=(G.jr:Int) - 1)&&!X.op&&decide (X.sq<=2147483648)&&Om h m&&Om h X.ch&&Om h X.od&&Om h X.fr) (some (.w (.c (.int .i64 0)),Zls (Jm h s S) S.tx X c r))
 | _=>none
attribute [go_sem] Znp
theorem G5:Yx K 40 (.c .snil)=true:=kR
attribute [go_sem] G5
section
variable (Hh:Hearts K Tryz.prog)
include Hh
end
section
variable (Hh:Hearts K Tryz.prog)
include Hh
end
end
end Go.Proofs.YteiljiijagmonaaGreatDoor
