/- Begin of a store whose transaction has changed blocks, with room for more. -/
import Derived.Test.YtdmendgkbikkaaaGreatDoorHdd
import Derived.Test.YtdmendgkbikkaaaGreatDoorObg
import Derived.Test.YtdmendgkbikkaaaGreatDoorEvC
set_option linter.unusedSimpArgs false
set_option linter.unusedVariables false
set_option linter.unusedSectionVars false
set_option maxRecDepth 100000
set_option maxHeartbeats 4000000
namespace Go.Proofs.YtdmendgkbikkaaaGreatDoor
open Go.Ev
def Si (l:O3):Bool:=l.all (fun p=>Lh p.1)&&Nat.ble l.length 1000000
noncomputable def Znd:Kn1:=fun args h=>match args with
 | [.c (.map m)]=>(getM h m).bind fun l=>Yp (Si l) (match l with
  | []=>some (.w (.c .snil),h)
  | p :: l'=>some (.w (.c (.slice h.next 0 (p :: l').length 1)),h.new (.row 1 ((M8 (p :: l')).map fun i=>[.int .i64 i]) false)))
 | _=>none
noncomputable def Zng:Kn1:=fun args h=>match args with
 | [.c (.ptr t 0)]=>(Uh h t).bind fun X=>Znd [.c (.map X.ch)] h
 | _=>none
noncomputable def Zpr:Kn1:=fun args h=>match args with
 | [.c (.ptr s 0),.c (.int .i64 a),.c (.int .i64 b)]=>(Gi h s).bind fun S=>(Uh h S.tx).bind fun X=>(Eo h X.rv).bind fun m=>(getM h X.ch).bind fun l=>(La ((l.length:Int)+a) b).bind fun n=>Yp (Jw h m&&Si l) (some (.tup [.c (.int .i64 n),.c (.int .i64 b)],h))
 | _=>none
noncomputable def D7 (h:Go.Ev.H) (es:List (W × W)):Go.Ev.H:=((((((h.new (.row 4 [[.mnil,.mnil,.mnil,.pnil]] false)).new (.map [])).new (.row 1 [[.map (h.next+1)]] false)).new (.map es)).new (.map [])).new (.map [])).put h.next (.row 4 [[.map (h.next+1+1+1),.map (h.next+1+1+1+1),.map (h.next+1+1+1+1+1),.ptr (h.next+1+1) 0]] false)
noncomputable def Zkh:Kn1:=fun args h=>match args with
 | [.c (.ptr t 0),.c (.int .u32 _)]=>(Uh h t).bind fun X=>(Eo h X.rv).bind fun m=>match h.get X.ch with
  | some (.map es)=>Yp (Jw h m&&Jw h X.od&&Jw h X.fr) (some (.w (.g [.map (h.next+1+1+1),.map (h.next+1+1+1+1),.map (h.next+1+1+1+1+1),.ptr (h.next+1+1) 0]),D7 h es))
  | _=>none
 | _=>none
noncomputable def Zbn (h:Go.Ev.H) (t:Nat) (X:Tx) (es:List (W × W)) (c r:Int):Go.Ev.H :=
 (D7 ((((((h.put t (.row 13 [txL { X with op:=true }] false)).put t (.row 13 [txL { X with op:=true,cr:=c }] false)).put t (.row 13 [txL { X with op:=true,cr:=c,rk:=r }] false)).new (.map [])).put t (.row 13 [txL { X with op:=true,cr:=c,rk:=r,to:=.map h.next }] false))) es).put t (.row 13 [txL { X with op:=true,cr:=c,rk:=r,to:=.map h.next,b1:=.map (h.next+1+1+1+1),b2:=.map (h.next+1+1+1+1+1),b3:=.map (h.next+1+1+1+1+1+1),b4:=.ptr (h.next+1+1+1) 0 }] false)
noncomputable def Zp7:Kn1:=fun args h=>match args with
 | [.c (.ptr t 0),.c (.int .i64 c),.c (.int .i64 r)]=>(Uh h t).bind fun X=>(Eo h X.rv).bind fun m=>match h.get X.ch with
  | some (.map es)=>Yp (!X.op&&decide (0≤c)&&decide (0≤r)&&Jw h m&&Jw h X.od&&Jw h X.fr) (some (.w (.c (.int .i64 0)),Zbn h t X es c r))
  | _=>none
 | _=>none
noncomputable def Zkl:Kn1:=fun args h=>match args with
 | [.c (.ptr s 0),.c (.int .i64 c),.c (.int .i64 r)]=>(Gi h s).bind fun S=>(Uh h S.tx).bind fun X=>(Ea h S.gd).bind fun G=>(Eo h X.rv).bind fun m=>(getM h X.ch).bind fun l=>(La c r).bind fun n=>(La ((l.length:Int)+c) r).bind fun n2=>Yp (decide (n≤(G.jr:Int) - 1)&&decide (n2≤(G.jr:Int) - 1)&&!X.op&&decide (X.sq≤2147483648)&&Jw h m&&Si l&&Jw h X.od&&Jw h X.fr) (some (.w (.c (.int .i64 0)),Zbn (J7 h s S) S.tx X (J5 l) c r))
 | _=>none
attribute [go_sem] Zkh Zp7
section
variable (Hh:Hearts K Tryz.prog)
include Hh
theorem Zyi {args:List W} {h h':Go.Ev.H} {v:V} (e:Znd args h=some (v,h')):Zg 127 args h v h':=by
 unfold Znd at e
 split at e
 ·rename_i m
  obtain⟨l,hl,e⟩:=Zh e
  have hm:=getM_some hl
  obtain⟨bk,e⟩:=Zr.1 e
  unfold Si at bk
  rw[Bool.and_eq_true] at bk
  have hsk:=Tk (l:=l) (fun p hp=>List.all_eq_true.1 bk.1 p hp)
  have kl:=bk.2
  rw[←Xp l] at kl
  cases l with
  | nil =>
   cases e
   refine Zyh Hh ?_
   show Yp (Jw h m) _=_
   rw[show Jw h m=true by unfold Jw; rw[hm]; rfl]
   rfl
  | cons p l' =>
   cases e
   rw[←Xp (p :: l')]
   have kn:0<(M8 (p :: l')).length:=by rw[Xp,List.length_cons]; omega
   obtain⟨ks,hks⟩:∃ ks,M8 (p :: l')=ks:=⟨_,rfl⟩
   simp only[hks] at hsk kl kn ⊢
   obtain⟨k0,kt,rfl⟩:∃ k0 kt,ks=k0 :: kt:=by
    cases ks with
    | nil=>simp at kn
    | cons a b=>exact⟨a,b,rfl⟩
   obtain⟨l2,hl2⟩:∃ l2,p :: l'=l2:=⟨_,rfl⟩
   rw[hl2] at hm hsk
   have kl:Nat.ble (kt.length+1) 1000000=true:=kl
   refine Zv.tidy ⟨Tryz.f127,Tryz.func127,by kernel_rfl,by decide⟩ fun tidy=>?_
   have l2:=tidy _ _ hm
   obtain⟨v,h',cc,n',rfl,n1,n2,n3,hk⟩:∃ v h',Zg 127 [.c (.map m)] h v h'∧∃ n',v=.w (.c (.slice n' 0 (k0 :: kt).length 1))∧h.next≤n'∧n'<h'.next∧h'.get n'=some (.row 1 ((k0 :: kt).map fun i=>[.int .i64 i]) false)∧∀ j,j<h.next→h'.get j=h.get j:=by
    refine Jd Hh Tryz.f127 ?_
    have Jf:=Uc @hm @hsk @kl
    repeat (first|apply Zp|apply Yb|refine Zy Hh (EY (EY Za (Zih Hh)) (Mj Hh)) Yi ?_)
    refine⟨_,_,Zj,_,rfl,?_,?_,?_,fun j hj=>by exact Jg⟩
    ·first|omega|(simp only[H.Zf,H.Zc]<;>omega)
    ·first|omega|(simp only[H.Zf,H.Zc]<;>omega)
    ·exact Zj
   exact Zv.row1 cc n1 n3 (List.all_eq_true.2 fun x hx=>by obtain⟨i,_,rfl⟩:=List.mem_map.1 hx; rfl) n2 hk
 ·cases e
theorem Znh {args:List W} {h h':Go.Ev.H} {v:V} (e:Zng args h=some (v,h')):Zg 68 args h v h':=by
 unfold Zng at e
 split at e
 ·rename_i t
  obtain⟨X,ht,e⟩:=Zh e
  have ht:=Ym ht
  have e0:Znd [.c (.map X.ch)] h=some (v,h'):=e
  obtain⟨w,rfl⟩:∃ w,v=.w w:=by
   have e1:=e0
   unfold Znd at e1
   obtain⟨l,hl,e1⟩:=Zh e1
   obtain⟨b,e1⟩:=Zr.1 e1
   split at e1<;>(cases e1; exact⟨_,rfl⟩)
  clear e
  refine fnG Hh Tryz.f68 ?_
  have Jf:=Uq @ht @e0
  repeat (first|apply Zp|apply Z6|apply Yb|refine Goes.Zn Yi ?_|refine Zy Hh (EY (EY Za (Gb Hh)) (Zyi Hh)) Yi ?_)
  exact Zj
 ·cases e
theorem Ztz {args:List W} {h h':Go.Ev.H} {v:V} (e:Zpr args h=some (v,h')):Zg 29 args h v h':=by
 unfold Zpr at e
 split at e
 ·rename_i s a b
  obtain⟨S,hs,e⟩:=Zh e
  have hs:=Ja hs
  obtain⟨X,hT,e⟩:=Zh e
  have ht:=Ym hT
  obtain⟨m,hr,e⟩:=Zh e
  have hr:=U8 hr
  obtain⟨l,hl,e⟩:=Zh e
  obtain⟨n,hn,e⟩:=Zh e
  obtain⟨bb,e⟩:=Zr.1 e
  cases e
  rw[Bool.and_eq_true] at bb
  have hm:=Yz bb.1
  have bk:=bb.2
  obtain⟨a0,a1,r0,r1,_⟩:=Ew hn
  have e1:∀ r,(Yp (Si l) (match l with
   | []=>some (.w (.c .snil),h)
   | p :: l'=>some (.w (.c (.slice h.next 0 (p :: l').length 1)),h.new (.row 1 ((M8 (p :: l')).map fun i=>[.int .i64 i]) false))))=r→Zng [.c (.ptr S.tx 0)] h=r:=fun r hr=>by
   show (Uh h S.tx).bind _=_
   rw[hT]
   show (getM h X.ch).bind _=_
   rw[hl]
   exact hr
  rw[bk] at e1
  refine Zv.tidy ⟨Tryz.f29,Tryz.func29,by kernel_rfl,by decide⟩ fun tidy=>?_
  have l1:=tidy _ _ hs
  have l2:=tidy _ _ ht
  have l3:=tidy _ _ hr
  have l4:=tidy _ _ hm
  cases l with
  | nil =>
   have e2:Zng [.c (.ptr S.tx 0)] h=some (.w (.c .snil),h):=e1 _ rfl
   have hn':La a b=some n:=by simpa using hn
   obtain⟨b0,b1,_,_,_⟩:=Ew hn'
   refine fnG Hh Tryz.f29 ?_
   have Jf:=Qv @hs @ht @hr @hm @e2 @hn' @Int.zero_add
   repeat (first|apply Zp|apply Yb|refine Zy Hh (EY (EY (EY Za (Zbi Hh)) (Znh Hh)) (Zgj Hh)) Ld ?_)
   exact Zj
  | cons p l' =>
   have e2:Zng [.c (.ptr S.tx 0)] h=some (.w (.c (.slice h.next 0 (p :: l').length 1)),h.new (.row 1 ((M8 (p :: l')).map fun i=>[.int .i64 i]) false)):=e1 _ rfl
   have kl:Nat.ble (p :: l').length 1000000=true:=by
    unfold Si at bk
    rw[Bool.and_eq_true] at bk
    exact bk.2
   have kl2:=Nat.le_of_ble_eq_true kl
   obtain⟨L,hL⟩:∃ L,(p :: l').length=L:=⟨_,rfl⟩
   obtain⟨R,hR⟩:∃ R,((M8 (p :: l')).map fun i=>[C.int .i64 i])=R:=⟨_,rfl⟩
   have lf:Yv K 40 (.c (.slice h.next 0 L 1))=true:=by kernel_rfl
   rw[hL] at e2 hn kl2 a0 a1
   rw[hR] at e2
   refine Wo rfl ?_
   refine Jd Hh Tryz.f29 ?_
   have Jf:=Zd0 @hs @ht @hr @hm @e2 @hn @lf @Int.zero_add
   repeat (first|apply Zp|apply Yb|refine Zy Hh (EY (EY (EY Za (Zbi Hh)) (Znh Hh)) (Zgj Hh)) Ld ?_)
   exact⟨_,_,Zj,rfl,fun j hj=>by exact Jg⟩
 ·cases e
theorem Zf9 {args:List W} {h h':Go.Ev.H} {v:V} (e:Zkh args h=some (v,h')):Zg 73 args h v h':=by
 unfold Zkh at e
 split at e
 ·rename_i t q
  obtain⟨X,ht,e⟩:=Zh e
  have ht:=Ym ht
  obtain⟨m,hr,e⟩:=Zh e
  have hr:=U8 hr
  split at e
  ·rename_i es hc
   obtain⟨b,e⟩:=Zr.1 e
   cases e
   simp only[Bool.and_eq_true] at b
   obtain⟨⟨b1,b3⟩,b4⟩:=b
   have hm:=Yz b1
   have ho:=Yz b3
   have hf:=Yz b4
   refine Zv.tidy ⟨Tryz.f73,Tryz.func73,by kernel_rfl,by decide⟩ fun tidy=>?_
   have l1:=tidy _ _ ht
   have l2:=tidy _ _ hr
   have l3:=tidy _ _ hm
   have l4:=tidy _ _ hc
   have l5:=tidy _ _ ho
   have l6:=tidy _ _ hf
   refine fnG Hh Tryz.f73 ?_
   have Jf:=Qu @ht @hr @hm @hc @ho @hf
   repeat (first|apply Zp|apply Yk|apply Yt|apply Z6|apply Oe|apply Yb|refine Goes.Zn Zqm ?_|refine Zy Hh (EY (EY (EY (EY Za (Zcl Hh)) (Zdy Hh)) (Zf7 Hh)) (Zga Hh)) Zqm ?_|refine Ms Hh (EY (EY (EY (EY Za (Zcl Hh)) (Zdy Hh)) (Zf7 Hh)) (Zga Hh)) Zux ?_)
   simp (maxSteps:=9^6) +decide (disch:=first|omega|(simp only[lens]<;>omega)|decide) only [go_sem,Zm,Ze,simprocAttr,D7]<;>rfl
  ·cases e
 ·cases e
set_option maxHeartbeats 1000000 in
theorem Zt9 {args:List W} {h h':Go.Ev.H} {v:V} (e:Zp7 args h=some (v,h')):Zg 32 args h v h':=by
 unfold Zp7 at e
 split at e
 ·rename_i t c r
  obtain⟨X,ht,e⟩:=Zh e
  have ht:=Ym ht
  obtain⟨m,hr,e⟩:=Zh e
  have hr:=U8 hr
  split at e
  ·rename_i es hc
   obtain⟨b,e⟩:=Zr.1 e
   cases e
   simp only[Bool.and_eq_true,decide_eq_true_eq,Bool.not_eq_true'] at b
   obtain⟨⟨⟨⟨⟨bo,c0⟩,r0⟩,b1⟩,b3⟩,b4⟩:=b
   have hm:=Yz b1
   have ho:=Yz b3
   have hf:=Yz b4
   refine Zv.tidy ⟨Tryz.f32,Tryz.func32,by kernel_rfl,by decide⟩ fun tidy=>?_
   have l1:=tidy _ _ ht
   have l2:=tidy _ _ hr
   have l3:=tidy _ _ hm
   have l4:=tidy _ _ hc
   have l5:=tidy _ _ ho
   have l6:=tidy _ _ hf
   have n2:X.rv≠t:=fun e1=>by rw[e1,ht] at hr; cases hr
   have n3:m≠t:=fun e1=>by rw[e1,ht] at hm; cases hm
   have n4:X.ch≠t:=fun e1=>by rw[e1,ht] at hc; cases hc
   have n5:X.od≠t:=fun e1=>by rw[e1,ht] at ho; cases ho
   have n6:X.fr≠t:=fun e1=>by rw[e1,ht] at hf; cases hf
   refine fnG Hh Tryz.f32 ?_
   repeat (first|apply Zp|apply Yk|apply Z6|apply Yb|((first|apply Goes.Zn|apply Goes.ops2 fits Hh (EY (EY Za (Gb Hh)) (Zf9 Hh))); · simp (maxSteps:=9^6) +decide (disch:=first|omega|(simp only[lens]<;>omega)|decide) only [go_sem,Zm,Ze,simprocAttr,ht,bo,hr,hm,hc,ho,hf,read1,Z9,D7]<;>rfl)|(apply Goes.drawn2 fits Hh (EY (EY Za (Gb Hh)) (Zf9 Hh)) (by kernel_rfl); · simp (maxSteps:=9^6) +decide (disch:=first|omega|(simp only[lens]<;>omega)|decide) only [go_sem,Zm,Ze,simprocAttr,drG,ht,bo,hr,hm,hc,ho,hf,read1,Z9,D7]<;>rfl))
   simp (maxSteps:=9^6) +decide (disch:=first|omega|(simp only[lens]<;>omega)|decide) only [go_sem,Zm,Ze,simprocAttr,Zbn,D7]<;>rfl
  ·cases e
 ·cases e
set_option maxHeartbeats 4000000 in
theorem Zt5 {args:List W} {h h':Go.Ev.H} {v:V} (e:Zkl args h=some (v,h')):Zg 12 args h v h':=by
 unfold Zkl at e
 split at e
 ·rename_i s c r
  obtain⟨S,hS,e⟩:=Zh e
  have hs:=Ja hS
  obtain⟨X,hT,e⟩:=Zh e
  have ht:=Ym hT
  obtain⟨G,hg,e⟩:=Zh e
  obtain⟨hg,fb⟩:=Un hg
  obtain⟨m,hR,e⟩:=Zh e
  have hr:=U8 hR
  obtain⟨l,hl,e⟩:=Zh e
  have hc:=getM_some hl
  obtain⟨n,hn,e⟩:=Zh e
  obtain⟨n2,hn2,e⟩:=Zh e
  obtain⟨b,e⟩:=Zr.1 e
  cases e
  simp only[Bool.and_eq_true,decide_eq_true_eq,Bool.not_eq_true'] at b
  obtain⟨⟨⟨⟨⟨⟨⟨bn,bn2⟩,bo⟩,sq⟩,b1⟩,bk⟩,b3⟩,b4⟩:=b
  have hm:=Yz b1
  have ho:=Yz b3
  have hf:=Yz b4
  have F:=Yh fb
  obtain⟨g1,g2,g3,g4,g5,g6,g7,g8,g9,g10,g11⟩:=F
  have eN:Zpr [.c (.ptr s 0),.c (.int .i64 c),.c (.int .i64 r)] h=some (.tup [.c (.int .i64 n2),.c (.int .i64 r)],h):=by
   show (Gi h s).bind _=_
   rw[hS]
   show (Uh h S.tx).bind _=_
   rw[hT]
   show (Eo h X.rv).bind _=_
   rw[hR]
   show (getM h X.ch).bind _=_
   rw[hl]
   show (La _ _).bind _=_
   rw[hn2]
   show Yp (Jw h m&&Si l) _=_
   rw[b1,bk]
   rfl
  refine Zv.tidy ⟨Tryz.f12,Tryz.func12,by kernel_rfl,by decide⟩ fun tidy=>?_
  have l1:=tidy _ _ ht
  have l2:=tidy _ _ hr
  have l3:=tidy _ _ hm
  have l4:=tidy _ _ hc
  have l5:=tidy _ _ ho
  have l6:=tidy _ _ hf
  have l7:=tidy _ _ hs
  have l8:=tidy _ _ hg
  have n1:S.tx≠s:=fun e1=>by rw[e1,hs] at ht; cases ht
  have n2:X.rv≠s:=fun e1=>by rw[e1,hs] at hr; cases hr
  have n3:m≠s:=fun e1=>by rw[e1,hs] at hm; cases hm
  have n4:X.ch≠s:=fun e1=>by rw[e1,hs] at hc; cases hc
  have n5:X.od≠s:=fun e1=>by rw[e1,hs] at ho; cases ho
  have n6:X.fr≠s:=fun e1=>by rw[e1,hs] at hf; cases hf
  obtain⟨c0,c1,r0,r1,nn⟩:=Ew hn
  refine fnG Hh Tryz.f12 ?_
  repeat (first|apply Zp|apply Z6|apply Yb|((first|apply Goes.Zn|apply Goes.ops2 fits Hh (EY (EY (EY (EY (EY (EY (EY Za (U3 Hh)) (Zy0 Hh)) (Zco Hh)) (Zgj Hh)) (Ztz Hh)) (Gs Hh)) (Zt9 Hh))); · simp (maxSteps:=9^6) +decide (disch:=first|omega|(simp only[lens]<;>omega)|decide) only [go_sem,Zm,Ze,simprocAttr,hn,eN,hs,ht,bo,hg,gdL,fb,hr,hm,hc,ho,hf,read1]<;>rfl))
  simp (maxSteps:=9^6) +decide (disch:=first|omega|(simp only[lens]<;>omega)|decide) only [go_sem,Zm,Ze,simprocAttr,J7]<;>rfl
 ·cases e
end
theorem rs14:Tryz.f14.results.toList=[.tmp 2]:=rfl
attribute [go_sem] rs14
noncomputable def Zbt (h:Go.Ev.H) (s:Nat) (S:Stt) (X:Tx):Go.Ev.H:=Zlo (J7 ((h.new (.row 1 [[.map S.gv]] false)).new (.row 1 [[.map S.dt]] false)) s S) S.tx X
noncomputable def Zko:Kn1:=fun args h=>match args with
 | [.c (.ptr s 0)]=>(Gi h s).bind fun S=>(Uh h S.tx).bind fun X=>(Ea h S.gd).bind fun _=>Yp (X.op&&Jw h S.dt&&Jw h S.gv) (some (.w (.c (.int .i64 0)),Zbt h s S X))
 | _=>none
section
variable (Hh:Hearts K Tryz.prog)
include Hh
theorem Zt7 {args:List W} {h h':Go.Ev.H} {v:V} (e:Zko args h=some (v,h')):Zg 14 args h v h':=by
 unfold Zko at e
 split at e
 ·rename_i s
  obtain⟨S,hs,e⟩:=Zh e
  have hs:=Ja hs
  obtain⟨X,ht,e⟩:=Zh e
  have ht:=Ym ht
  obtain⟨G,hg,e⟩:=Zh e
  obtain⟨hg,fb⟩:=Un hg
  obtain⟨b,e⟩:=Zr.1 e
  cases e
  simp only[Bool.and_eq_true] at b
  obtain⟨⟨bo,b1⟩,b2⟩:=b
  have hl:=Yz b1
  have hv:=Yz b2
  refine Zv.tidy ⟨Tryz.f14,Tryz.func14,by kernel_rfl,by decide⟩ fun tidy=>?_
  have l1:=tidy _ _ hs
  have l2:=tidy _ _ ht
  have l3:=tidy _ _ hl
  have l4:=tidy _ _ hv
  have l5:=tidy _ _ hg
  have n1:S.tx≠s:=fun e1=>by rw[e1,hs] at ht; cases ht
  have n2:S.dt≠s:=fun e1=>by rw[e1,hs] at hl; cases hl
  have n3:S.gv≠s:=fun e1=>by rw[e1,hs] at hv; cases hv
  refine fnG Hh Tryz.f14 ?_
  repeat (first|apply Zp|apply Yk|apply Yt|apply Z6|apply Oe|apply Yb|((first|apply Goes.Zn|apply Goes.ops2 fits Hh (EY (EY (EY (EY (EY (EY (EY (EY Za (Zcn Hh)) (Zij Hh)) (Mj Hh)) (Zii Hh)) (Zf6 Hh)) (Zgk Hh)) (Gs Hh)) (Zni Hh))); · simp (maxSteps:=9^6) +decide (disch:=first|omega|(simp only[lens]<;>omega)|decide) only [go_sem,Zm,Ze,simprocAttr,hs,ht,bo,hg,gdL,fb,hl,hv,Zal,read1,Zt,J6]<;>rfl)|(apply Goes.drawn2 fits Hh (EY (EY (EY (EY (EY (EY (EY (EY Za (Zcn Hh)) (Zij Hh)) (Mj Hh)) (Zii Hh)) (Zf6 Hh)) (Zgk Hh)) (Gs Hh)) (Zni Hh)) (by kernel_rfl); · simp (maxSteps:=9^6) +decide (disch:=first|omega|(simp only[lens]<;>omega)|decide) only [go_sem,Zm,Ze,simprocAttr,drG,hs,ht,bo,hg,gdL,fb,hl,hv,Zal,read1,Zt,J6]<;>rfl))
  simp (maxSteps:=9^6) +decide (disch:=first|omega|(simp only[lens]<;>omega)|decide) only [go_sem,Zm,Ze,simprocAttr,Zbt,J7]<;>rfl
 ·cases e
end
abbrev Cr.cl (ch:List Nat):Cr:=⟨0,0,false,ch⟩
section
variable {n d d1 d2 q a b c e:Nat} {md:Int} {cr:Cr} {L:List (List C)} {h:Go.Ev.H} {S T:List Nat} {V:Nat→List Nat}
theorem ClD.closed (M:ClD n d d1 d2 a b c e md L h) (see:∀ z,z<2+e+a * b→Og a b c e (z:Int)=true→(V z).length=256∧L[z]? = some (pgL (V z))):HE n (n+14) a b c e (Cr.cl []) md [] [] V h:=by
 obtain⟨f1,f2,f3,l1,l2,f4,f5,f6,f7,f8,f9,f10,f11,f12,f13,f14,f15,f16,f17,f18⟩:=M
 refine⟨d,d1,d2,false,[],[],[],[],L,rfl,Zmv L,rfl,rfl,rfl,(fun _ _ e=>by cases e),rfl,(fun _ _ e=>by cases e),⟨(fun o=>by cases o),rfl,(fun _ _ e=>by cases e)⟩,(fun _ _ e=>by cases e),fun z z1 hz=>⟨(see z z1 hz).1,.inr ⟨rfl,.inr ⟨rfl,(see z z1 hz).2⟩⟩⟩,⟨f1,f2,Nat.le_refl _,by omega,l1,l2,f4,f5,f6,f7,f8,f9,f17,f11,f12,f13,f14,f16,(fun o=>by cases o),f10,f15,(fun o=>by cases o),f18⟩⟩
theorem Zo4 {k m:Nat} {x r s:Int} (h:La ((m:Int)+x) r=some s) (hk:k≤m) (x0:0<x):∃ s',La ((k:Int)+x) r=some s'∧s'≤s:=by
 obtain⟨a1,a2,a3,a4,rfl⟩:=Ew h
 refine⟨(k:Int)+x+((k:Int)+x+30 - 1) / 30+(r+60 - 1) / 60+1,?_,by omega⟩
 unfold La
 rw[decide_eq_true (by omega),decide_eq_true (by omega),decide_eq_true a3,decide_eq_true a4]
 rfl
theorem Zk8 {m:Nat} {cr':Cr} {kn:Bool} {es:List (W × W)} {X:Tx} (nx:n+23≤h.next) (hm:m<h.next) (m1:m≠n+13) (m2:m≠n+20):(Zbn (J7 h (n+13) (stH n q cr kn)) (n+20) X es cr'.c cr'.r).get m=h.get m:=by
 unfold Zbn D7 J7
 simp (discharger:=omega) only [H.get_put,H.Zd,H.Zc,H.Zf,if_neg]
theorem Z0e {l:O3} {C:List Nat} (hu:Zdd l=true) (hs:∀ z y,Yx z l=some y→∃ k∈C,z=(k:Nat)) (hC:∀ k∈C,k<4096) (cl:C.length≤4096):Si l=true∧l.length≤C.length:=by
 have kb:=Zb2 hu hs
 refine⟨?_,kb⟩
 unfold Si
 rw[Nat.ble_eq_true_of_le (by omega),Bool.and_true]
 refine List.all_eq_true.2 fun p hp=>?_
 have:(Yx p.1 l).isSome=true:=Zhv.1 (by
  clear hs kb hu
  induction l with
  | nil=>cases hp
  | cons x l ih =>
   rw[M8,Ze8]
   rcases List.mem_cons.1 hp with w|w
   ·exact .inl (by rw[w])
   ·exact .inr (ih w))
 obtain⟨y,hy⟩:=Option.isSome_iff_exists.1 this
 obtain⟨k,hk,e⟩:=hs _ _ hy
 have:=hC k hk
 unfold Lh
 rw[e,decide_eq_true (by omega),decide_eq_true (by omega)]
 rfl
theorem HE.beg {ch:List Nat} (M:HE n q a b c e (Cr.cl ch) md S [] V h) (fb:Y2 a b c e=true) {x r s1 s2:Int} {C S':List Nat} (hC:∀ k∈ch++S,k∈C) (C4:∀ k∈C,k<4096) (cl:C.length≤4096) (z1:La x r=some s1) (y1:s1≤(e:Int) - 1) (z2:La ((C.length:Int)+x) r=some s2) (y2:s2≤(e:Int) - 1) (hS:(S'.length:Int)≤x) :
  ∃ h',Zkl [.c (.ptr (n+13) 0),.c (.int .i64 x),.c (.int .i64 r)] h=some (.w (.c (.int .i64 0)),h')∧HE n h.next a b c e ⟨x,r,true,C⟩ md S' [] V h'∧h.next≤h'.next∧∀ m,m<h.next→m≠n+13→m≠n+20→h'.get m=h.get m:=by
 obtain⟨d,d1,d2,kn,ld,lt,lc,lm,L,fl,sn,ft,fc,t5,vt,t7,t8,t9,tT,see,M⟩:=M
 obtain⟨f1,f2,f3,f4,l1,l2,f5,f6,f7,f8,f9,f10,f11,f12,f13,f14,f15,f16,f17,f18,f19,f20,f21⟩:=M
 obtain rfl:ld=[]:=by
  cases ld with
  | nil=>rfl
  | cons p l =>
   obtain⟨k,hk,_⟩:=tT p.1 p.2 (by show (bif p.1 == p.1 then some p.2 else Yx p.1 l)=_; rw[Tf rfl]; rfl)
   cases hk
 have hc':∀ z y,Yx z lc=some y→∃ k∈C,z=(k:Nat):=fun z y hz=>by
  obtain⟨k,hk,e⟩:=t9.2.2 z y hz
  exact⟨k,hC k hk,e⟩
 obtain⟨ko,kb⟩:=Z0e t9.2.1 hc' C4 cl
 obtain⟨x0,_,_,_,_⟩:=Ew z1
 obtain⟨s3,z3,y3⟩:=Zo4 z2 kb x0
 have y1':decide (s1≤(e:Int) - 1)=true:=decide_eq_true y1
 have y3':decide (s3≤(e:Int) - 1)=true:=decide_eq_true (by omega)
 have n23:n+23≤h.next:=by omega
 refine⟨_,by unfold Zkl; simp (maxSteps:=9^6) +decide (disch:=first|omega|(simp only[lens]<;>omega)|decide) only [go_sem,Zm,Ze,simprocAttr,f19,f5,f6,gdL,gdD,f14,f21,fb,z1,z3,y1',y3',f15,f13,f12,ko]<;>rfl,⟨d,d1,d2,false,[],[],lc,lm,L,fl,sn,rfl,fc,rfl,(fun _ _ e=>by cases e),rfl,(fun _ _ e=>by cases e),⟨fun _=>hS,t9.2.1,fun z y hz=>by obtain⟨k,hk,e⟩:=hc' z y hz; exact⟨k,List.mem_append_left _ hk,e⟩⟩,tT,fun z z1 hz=>see z z1 hz,?_⟩,?_,fun m hm m1 m2=>Zk8 n23 hm m1 m2 (cr':=⟨x,r,true,C⟩) (es:=J5 lc)⟩
 ·have old:∀ {m:Nat} {o:O},h.get m=some o→m<h.next→m≠n+13→m≠n+20→(Zbn (J7 h (n+13) (stH n q (Cr.cl ch) kn)) (n+20) (txH n q (Cr.cl ch)) (J5 lc) x r).get m=some o:=fun e hm m1 m2=>(Zk8 n23 hm m1 m2 (cr':=⟨x,r,true,C⟩)).trans e
  refine⟨old f1 (by omega) (by omega) (by omega),f2,by omega,?_,l1,l2,?_,old f6 (by omega) (by omega) (by omega),old f7 (by omega) (by omega) (by omega),old f8 (by omega) (by omega) (by omega),old f9 (by omega) (by omega) (by omega),old f10 (by omega) (by omega) (by omega),?_,old f12 (by omega) (by omega) (by omega),old f13 (by omega) (by omega) (by omega),old f14 (by omega) (by omega) (by omega),old f15 (by omega) (by omega) (by omega),?_,fun _=>n23,old f18 (by omega) (by omega) (by omega),?_,fun _=>?_,old f21 (by omega) (by omega) (by omega)⟩
  ·unfold Zbn D7 J7; simp only[H.Zc,H.Zf]; omega
  ·unfold Zbn D7 J7; simp (discharger:=omega) only [H.get_put,H.Zd,H.Zc,H.Zf,if_neg,if_pos]; rfl
  ·show H.get _ (h.next+1)=_; unfold Zbn D7 J7; simp (discharger:=omega) only [H.get_put,H.Zd,H.Zc,H.Zf,if_neg,if_pos,if_true]
  ·show H.get _ h.next=_; unfold Zbn D7 J7; simp (discharger:=omega) only [H.get_put,H.Zd,H.Zc,H.Zf,if_neg,if_pos,if_true]; rfl
  ·unfold Zbn D7 J7; simp (discharger:=omega) only [H.get_put,H.Zd,H.Zc,H.Zf,if_neg,if_pos]; rfl
  ·unfold Zbn D7 J7; simp (discharger:=omega) only [H.get_put,H.Zd,H.Zc,H.Zf,if_neg,if_pos,if_true]; rfl
 ·unfold Zbn D7 J7; simp only[H.Zf,H.Zc]; omega
theorem Zvl {m:Nat} {St:Stt} {X:Tx} (nx:n+23≤h.next) (hm:m<h.next) (m1:m≠n+13) (m2:m≠n+20):(Zbt h (n+13) St (X)).get m=h.get m∨St.tx≠n+20:=by
 by_cases e:St.tx=n+20
 ·left
  unfold Zbt
  rw[Vj,e,if_neg m2]
  unfold J7
  simp (discharger:=omega) only [H.get_put,H.Zd,H.Zc,H.Zf,if_neg]
 ·exact .inr e
theorem HE.fin [Opn cr] (M:HE n q a b c e cr md S [] V h) (fb:Y2 a b c e=true) {C:List Nat} (hC:∀ k∈cr.ch++S,k∈C) :
  ∃ h',Zko [.c (.ptr (n+13) 0)] h=some (.w (.c (.int .i64 0)),h')∧HE n (h.next - 5) a b c e (Cr.cl C) md [] [] V h'∧h.next+4≤h'.next∧∀ m,m<h.next→m≠n+13→m≠n+20→h'.get m=h.get m:=by
 obtain⟨d,d1,d2,kn,ld,lt,lc,lm,L,fl,sn,ft,fc,t5,vt,t7,t8,t9,tT,see,M⟩:=M
 obtain⟨f1,f2,f3,f4,l1,l2,f5,f6,f7,f8,f9,f10,f11,f12,f13,f14,f15,f16,f17,f18,f19,f20,f21⟩:=M
 obtain rfl:ld=[]:=by
  cases ld with
  | nil=>rfl
  | cons p l =>
   obtain⟨k,hk,_⟩:=tT p.1 p.2 (by show (bif p.1 == p.1 then some p.2 else Yx p.1 l)=_; rw[Tf rfl]; rfl)
   cases hk
 have hc':∀ z y,Yx z lc=some y→∃ k∈C++[],z=(k:Nat):=fun z y hz=>by
  obtain⟨k,hk,e⟩:=t9.2.2 z y hz
  exact⟨k,by rw[List.append_nil]; exact hC k hk,e⟩
 have n23:n+23≤h.next:=by omega
 have tx0:(stH n q cr kn).tx=n+20:=rfl
 have ng:∀ m,m<h.next→m≠n+13→m≠n+20→(Zbt h (n+13) (stH n q cr kn) (txH n q cr)).get m=h.get m:=fun m hm m1 m2=>(Zvl n23 hm m1 m2).resolve_right (fun w=>w rfl)
 have old:∀ {m:Nat} {o:O},h.get m=some o→m<h.next→m≠n+13→m≠n+20→(Zbt h (n+13) (stH n q cr kn) (txH n q cr)).get m=some o:=fun e hm m1 m2=>(ng _ hm m1 m2).trans e
 refine⟨Zbt h (n+13) (stH n q cr kn) (txH n q cr),by unfold Zko; simp (maxSteps:=9^6) +decide (disch:=first|omega|(simp only[lens]<;>omega)|decide) only [go_sem,Zm,Ze,simprocAttr,f19,f5,f6,gdL,gdD,fb,f16,f11]<;>rfl,⟨d,d1,d2,false,[],[],lc,lm,L,fl,sn,rfl,fc,rfl,(fun _ _ e=>by cases e),rfl,(fun _ _ e=>by cases e),⟨(fun o=>by cases o),t9.2.1,hc'⟩,(fun _ _ e=>by cases e),see,?_⟩,?_,ng⟩
 ·refine⟨old f1 (by omega) (by omega) (by omega),f2,by omega,?_,l1,l2,?_,old f6 (by omega) (by omega) (by omega),old f7 (by omega) (by omega) (by omega),old f8 (by omega) (by omega) (by omega),old f9 (by omega) (by omega) (by omega),old f10 (by omega) (by omega) (by omega),?_,old f12 (by omega) (by omega) (by omega),old f13 (by omega) (by omega) (by omega),old f14 (by omega) (by omega) (by omega),old f15 (by omega) (by omega) (by omega),?_,(fun o=>by cases o),old f18 (by omega) (by omega) (by omega),?_,(fun o=>by cases o),old f21 (by omega) (by omega) (by omega)⟩
  ·unfold Zbt Zlo J7; simp only[H.Zc,H.Zf]; omega
  ·unfold Zbt; rw[Vj,tx0,if_pos rfl]; rfl
  ·show H.get _ (h.next - 5+7+1)=_
   unfold Zbt
   rw[Vj,tx0,if_neg (show h.next - 5+7+1≠n+20 by omega)]
   unfold J7; simp (discharger:=omega) only [H.get_put,H.Zd,H.Zc,H.Zf,if_neg,if_pos,if_true]
  ·show H.get _ (h.next - 5+7)=_
   unfold Zbt
   rw[Vj,tx0,if_neg (show h.next - 5+7≠n+20 by omega)]
   unfold J7; simp (discharger:=omega) only [H.get_put,H.Zd,H.Zc,H.Zf,if_neg,if_pos,if_true]; rfl
  ·unfold Zbt
   rw[Vj,tx0,if_neg (show n+13≠n+20 by omega)]
   unfold J7; simp (discharger:=omega) only [H.get_put,H.Zd,H.Zc,H.Zf,if_neg,if_pos,if_true]
   show some (O.row 8 [stL ⟨n+12,n+20,h.next+2,h.next+3,.snil,false⟩] false)=some (O.row 8 [stL ⟨n+12,n+20,h.next - 5+7,h.next - 5+7+1,.snil,false⟩] false)
   rw[show h.next - 5+7=h.next+2 by omega]
 ·unfold Zbt Zlo J7; simp only[H.Zc,H.Zf]; omega
end
end Go.Proofs.YtdmendgkbikkaaaGreatDoor
