/- paths.Of: the ways to the first blocks of a file, by the kernel. -/
import Derived.Test.YtdmendgkbikkaaaGreatDoorSli
import Derived.Test.YtdmendgkbikkaaaGreatDoorBeg
import Derived.Test.YtdmendgkbikkaaaGreatDoorEvC
import Derived.KernelRfl
set_option linter.unusedSimpArgs false
set_option linter.unusedVariables false
set_option linter.unusedSectionVars false
set_option maxRecDepth 100000
set_option maxHeartbeats 4000000
namespace Go.Proofs.YtdmendgkbikkaaaGreatDoor
open Go.Ev
def Uk (i:Nat):Nat × List Nat:=if i<8 then (i,[]) else if i<72 then (8,[i - 8]) else (9,[(i - 72) / 64,(i - 72) % 64])
def okI:List Nat→List (List C)→Bool
 | [],r=>r.isEmpty
 | x :: l,r=>match r with
  | [.int .i64 a] :: r'=>decide (a=(x:Int))&&okI l r'
  | _=>false
theorem Zom:∀ {l:List Nat} {r:List (List C)},okI l r=true→r=rwI l
 | [],r,h=>List.isEmpty_iff.1 h
 | x :: l,r,h=>by
  unfold okI at h
  split at h
  ·rename_i a r'
   rw[Bool.and_eq_true] at h
   rw[Zom h.2,show a=(x:Int) from of_decide_eq_true h.1]
   rfl
  ·cases h
noncomputable def ofC (i:Nat):Bool:=match Zo1 (evX K x00 5000 (.call 22 [.c (.int .i64 (i:Int))] ⟨.nil,1⟩)) with
 | some (p,r)=>decide (p=((Uk i).1:Nat))&&okI (Uk i).2 r
 | none=>false
theorem Z6q:(List.range 22).all (fun k=>ofC k)=true:=by kernel_rfl
theorem Z6r:(List.range 22).all (fun k=>ofC (22+k))=true:=by kernel_rfl
theorem Z6s:(List.range 22).all (fun k=>ofC (44+k))=true:=by kernel_rfl
theorem Z6t:(List.range 22).all (fun k=>ofC (66+k))=true:=by kernel_rfl
theorem Z6u:(List.range 22).all (fun k=>ofC (88+k))=true:=by kernel_rfl
theorem Z5j (i:Nat) (h:i<110):Zo1 (evX K x00 5000 (.call 22 [.c (.int .i64 (i:Int))] ⟨.nil,1⟩))=some ((((Uk i).1:Nat):Int),rwI (Uk i).2):=by
 have c:ofC i=true:=by
  rcases Nat.lt_or_ge i 22 with w|w
  ·exact List.all_eq_true.1 Z6q i (List.mem_range.2 w)
  rcases Nat.lt_or_ge i 44 with w2|w2
  ·have:=List.all_eq_true.1 Z6r (i - 22) (List.mem_range.2 (by omega)); rwa [show 22+(i - 22)=i by omega] at this
  rcases Nat.lt_or_ge i 66 with w3|w3
  ·have:=List.all_eq_true.1 Z6s (i - 44) (List.mem_range.2 (by omega)); rwa [show 44+(i - 44)=i by omega] at this
  rcases Nat.lt_or_ge i 88 with w4|w4
  ·have:=List.all_eq_true.1 Z6t (i - 66) (List.mem_range.2 (by omega)); rwa [show 66+(i - 66)=i by omega] at this
  ·have:=List.all_eq_true.1 Z6u (i - 88) (List.mem_range.2 (by omega)); rwa [show 88+(i - 88)=i by omega] at this
 unfold ofC at c
 split at c
 ·rename_i p r e
  rw[Bool.and_eq_true] at c
  rw[e,Zom c.2,show p=(((Uk i).1:Nat):Int) from of_decide_eq_true c.1]
 ·cases c
theorem Zo9 {i:Nat} (h:i<110):(Uk i).1<11∧∀ w∈(Uk i).2,w<64:=by
 unfold Uk
 split
 ·exact⟨by show i<11; omega,fun w hw=>by simp at hw⟩
 ·split
  ·exact⟨by show 8<11; omega,fun w hw=>by simp at hw; omega⟩
  ·exact⟨by show 9<11; omega,fun w hw=>by simp at hw; omega⟩
section
variable (Hh:Hearts K Tryz.prog)
include Hh
theorem Z3h {i:Nat} (hi:i<110) {h:Go.Ev.H} (h0:0<h.next):∃ h' s,Zg 22 [.c (.int .i64 (i:Int))] h (.tup [.c (.int .i64 ((Uk i).1:Nat)),.c s,.c (.int .i64 0)]) h'∧h.next≤h'.next∧(∀ m,m<h.next→h'.get m=h.get m)∧SlI h' s (Uk i).2∧∀ p o n z,s=.slice p o n z→h.next≤p∧p<h'.next:=by
 obtain⟨h',s,c,n,k,r⟩:=Zv.Zqu fits Hh Zf4 gl (Z5j i hi) rfl h h0
 refine⟨h',s,c,n,k,?_,fun p o l z e=>?_⟩
 ·rcases r with ⟨e,rfl⟩|⟨q,q1,q2,rfl,ho,el⟩
  ·left
   refine⟨?_,rfl⟩
   have:=congrArg List.length e
   rw[Xx] at this
   exact List.eq_nil_of_length_eq_zero this
  ·rw[Xx] at el ⊢
   exact .inr ⟨q,el,rfl,ho⟩
 ·rcases r with ⟨_,rfl⟩|⟨q,q1,q2,rfl,ho,el⟩
  ·cases e
  ·cases e; exact⟨q1,q2⟩
end
section
variable (Hh:Hearts K Tryz.prog)
include Hh
set_option maxHeartbeats 4000000 in
theorem Zyp {args:List W} {h h':Go.Ev.H} {v:V} (e:Zyo args h=some (v,h')):Zg 51 args h v h':=by
 unfold Zyo at e
 split at e
 ·rename_i d a0 b0 c0 e0 md q
  obtain⟨a,ha,e⟩:=Zh e
  obtain⟨b,hb,e⟩:=Zh e
  obtain⟨c,hc,e⟩:=Zh e
  obtain⟨j,hj,e⟩:=Zh e
  obtain⟨D,hd,e⟩:=Zh e
  obtain⟨hd,n0,n1⟩:=U0 hd
  obtain⟨f,e⟩:=Zr.1 e
  simp only[Bool.and_eq_true,decide_eq_true_eq] at f
  obtain⟨⟨⟨⟨⟨fb,nn⟩,m1⟩,m3⟩,q1⟩,q2⟩:=f
  have nn:=Nat.le_of_ble_eq_true nn
  have F:=Yh fb
  obtain⟨g1,g2,g3,g4,g5,g6,g7,g8,g9,g10,g11⟩:=F
  cases e
  rw[Yc ha,Yc hb,Yc hc,Yc hj]
  refine Zv.tidy ⟨Tryz.f51,Tryz.func51,by kernel_rfl,by decide⟩ fun tidy=>?_
  have l1:=tidy _ _ hd
  have h3:md=1∨md=2∨md=3:=by omega
  rcases h3 with rfl|rfl|rfl
  ·
   refine fnG Hh Tryz.f51 ?_
   have Jf:=Uq @hd @fb
   repeat (first|apply Zp|apply Yk|apply Z6|apply Yb|refine Goes.Zn Xi ?_|refine Zy Hh (EY (EY (EY (EY (EY (EY (EY (EY Za (Gm Hh)) (Gz Hh)) (Dx Hh)) (Rs Hh)) (Ru Hh)) (Rt Hh)) (Rw Hh)) (Gs Hh)) Xi ?_|refine Ms Hh (EY (EY (EY (EY (EY (EY (EY (EY Za (Gm Hh)) (Gz Hh)) (Dx Hh)) (Rs Hh)) (Ru Hh)) (Rt Hh)) (Rw Hh)) (Gs Hh)) Zd5 ?_)
   simp (maxSteps:=9^6) +decide (disch:=first|omega|(simp only[lens]<;>omega)|decide) only [go_sem,Zm,Ze,simprocAttr,Tg,Yw,gdL]<;>rfl
  ·
   refine fnG Hh Tryz.f51 ?_
   have Jf:=Uq @hd @fb
   repeat (first|apply Zp|apply Yk|apply Z6|apply Yb|refine Goes.Zn Xi ?_|refine Zy Hh (EY (EY (EY (EY (EY (EY (EY (EY Za (Gm Hh)) (Gz Hh)) (Dx Hh)) (Rs Hh)) (Ru Hh)) (Rt Hh)) (Rw Hh)) (Gs Hh)) Xi ?_|refine Ms Hh (EY (EY (EY (EY (EY (EY (EY (EY Za (Gm Hh)) (Gz Hh)) (Dx Hh)) (Rs Hh)) (Ru Hh)) (Rt Hh)) (Rw Hh)) (Gs Hh)) Zd5 ?_)
   simp (maxSteps:=9^6) +decide (disch:=first|omega|(simp only[lens]<;>omega)|decide) only [go_sem,Zm,Ze,simprocAttr,Tg,Yw,gdL]<;>rfl
  ·
   refine fnG Hh Tryz.f51 ?_
   have Jf:=Uq @hd @fb
   repeat (first|apply Zp|apply Yk|apply Z6|apply Yb|refine Goes.Zn Xi ?_|refine Zy Hh (EY (EY (EY (EY (EY (EY (EY (EY Za (Gm Hh)) (Gz Hh)) (Dx Hh)) (Rs Hh)) (Ru Hh)) (Rt Hh)) (Rw Hh)) (Gs Hh)) Xi ?_|refine Ms Hh (EY (EY (EY (EY (EY (EY (EY (EY Za (Gm Hh)) (Gz Hh)) (Dx Hh)) (Rs Hh)) (Ru Hh)) (Rt Hh)) (Rw Hh)) (Gs Hh)) Zd5 ?_)
   simp (maxSteps:=9^6) +decide (disch:=first|omega|(simp only[lens]<;>omega)|decide) only [go_sem,Zm,Ze,simprocAttr,Tg,Yw,gdL]<;>rfl
 ·cases e
end
attribute [go_sem] Zyo
noncomputable def q73 (p:List Nat):Code:=piece p (Ut Tryz.f73)
theorem rs73:Tryz.f73.results.toList=[.cell 4 150]:=rfl
theorem rs32:Tryz.f32.results.toList=[.tmp 6]:=rfl
theorem rs12:Tryz.f12.results.toList=[.tmp 6]:=rfl
attribute [go_sem] rs73 rs32 rs12
noncomputable def R5 (h:Go.Ev.H):Go.Ev.H:=((((((h.new (.row 4 [[.mnil,.mnil,.mnil,.pnil]] false)).new (.map [])).new (.row 1 [[.map (h.next+1)]] false)).new (.map [])).new (.map [])).new (.map [])).put h.next (.row 4 [[.map (h.next+1+1+1),.map (h.next+1+1+1+1),.map (h.next+1+1+1+1+1),.ptr (h.next+1+1) 0]] false)
noncomputable def Z32:Kn1:=fun args h=>match args with
 | [.c (.ptr t 0),.c (.int .u32 _)]=>(Uh h t).bind fun X=>(Eo h X.rv).bind fun m=>Yp (Jw h m&&Jw h X.ch&&Jw h X.od&&Jw h X.fr) (some (.w (.g [.map (h.next+1+1+1),.map (h.next+1+1+1+1),.map (h.next+1+1+1+1+1),.ptr (h.next+1+1) 0]),R5 h))
 | _=>none
noncomputable def Zgu (h:Go.Ev.H) (t:Nat) (X:Tx) (c r:Int):Go.Ev.H :=
 (R5 ((((((h.put t (.row 13 [txL { X with op:=true }] false)).put t (.row 13 [txL { X with op:=true,cr:=c }] false)).put t (.row 13 [txL { X with op:=true,cr:=c,rk:=r }] false)).new (.map [])).put t (.row 13 [txL { X with op:=true,cr:=c,rk:=r,to:=.map h.next }] false)))).put t (.row 13 [txL { X with op:=true,cr:=c,rk:=r,to:=.map h.next,b1:=.map (h.next+1+1+1+1),b2:=.map (h.next+1+1+1+1+1),b3:=.map (h.next+1+1+1+1+1+1),b4:=.ptr (h.next+1+1+1) 0 }] false)
noncomputable def Z1p:Kn1:=fun args h=>match args with
 | [.c (.ptr t 0),.c (.int .i64 c),.c (.int .i64 r)]=>(Uh h t).bind fun X=>(Eo h X.rv).bind fun m=>Yp (!X.op&&decide (0≤c)&&decide (0≤r)&&Jw h m&&Jw h X.ch&&Jw h X.od&&Jw h X.fr) (some (.w (.c (.int .i64 0)),Zgu h t X c r))
 | _=>none
noncomputable def J7 (h:Go.Ev.H) (s:Nat) (S:Stt):Go.Ev.H:=((((h.new (.map [])).put s (.row 8 [stL { S with dt:=h.next }] false)).new (.map [])).put s (.row 8 [stL { S with dt:=h.next,gv:=h.next+1 }] false)).put s (.row 8 [stL { S with dt:=h.next,gv:=h.next+1,kn:=false }] false)
noncomputable def Zkm:Kn1:=fun args h=>match args with
 | [.c (.ptr s 0),.c (.int .i64 c),.c (.int .i64 r)]=>(Gi h s).bind fun S=>(Uh h S.tx).bind fun X=>(Ea h S.gd).bind fun G=>(Eo h X.rv).bind fun m=>(La c r).bind fun n=>Yp (decide (n≤(G.jr:Int) - 1)&&!X.op&&decide (X.sq≤2147483648)&&Jw h m&&Jw h X.ch&&Jw h X.od&&Jw h X.fr) (some (.w (.c (.int .i64 0)),Zgu (J7 h s S) S.tx X c r))
 | _=>none
attribute [go_sem] Z32 Z1p Zkm
theorem Zal:Yv K 40 (.c .snil)=true:=by kernel_rfl
attribute [go_sem] Zal
section
variable (Hh:Hearts K Tryz.prog)
include Hh
end
section
variable (Hh:Hearts K Tryz.prog)
include Hh
end
end Go.Proofs.YtdmendgkbikkaaaGreatDoor
