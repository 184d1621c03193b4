/- A store at rest: seen, Get. -/
import Derived.Test.YtgikjeaipmeclaaGreatDoorBeg
set_option linter.unusedSimpArgs false
set_option linter.unusedVariables false
set_option linter.unusedSectionVars false
set_option maxRecDepth 100000
set_option maxHeartbeats 4000000
namespace Go.Proofs.YtgikjeaipmeclaaGreatDoor
open Go.Ev
theorem rs43:Tryz.f43.results.toList=[.cell 4 71,.tmp 5]:=rfl
theorem rs20:Tryz.f20.results.toList=[.cell 4 71,.tmp 5]:=rfl
attribute [go_sem] rs43 rs20
theorem Zav {c:Nat} {z:Int} {h h':Go.Ev.H} {v:V} (e:R8 [.c (.ptr c 0),.c (.int .i64 z)] h=some (v,h')):∃ X D l,h.get c=some (.row 3 [ckL X] false)∧h.get X.d=some (.row 6 [dkL D] false)∧0<D.n∧D.n≤2048∧0≤z∧z<(D.n:Int)∧h.get X.m=some (.map (Jv l)) ∧
    ((∃ y,Y6 z l=some y∧y.length=257∧y.all C.flat=true∧v=.tup [.g (y.take 256),.c (.int .i64 0)]∧h'=h) ∨
     (Y6 z l=none∧O1 l=true∧∃ x L ro,h.get D.q=some (.row 256 L ro)∧L[z.toNat]? = some x∧x.length=256∧x.all C.flat=true∧v=.tup [.g x,.c (.int .i64 0)]∧h'=h.put X.m (.map (Jv (Oc z (x++[.bool false]) l))))):=by
  unfold R8 at e
  obtain⟨X,hc,e⟩:=Zl e
  have hc:=R6 hc
  obtain⟨D,hd,e⟩:=Zl e
  obtain⟨hd,n0,n1⟩:=Uu hd
  obtain⟨b,e⟩:=Zq.1 e
  simp only[Bool.and_eq_true,decide_eq_true_eq] at b
  obtain⟨z0,z1⟩:=b
  obtain⟨l,hm,e⟩:=Zl e
  have hm:=getM_some hm
  refine⟨X,D,l,hc,hd,n0,n1,z0,z1,hm,?_⟩
  split at e
  · rename_i y hl
    obtain⟨b,e⟩:=Zq.1 e
    rw[Bool.and_eq_true] at b
    cases e
    exact .inl ⟨y,hl,Nat.eq_of_beq_eq_true b.1,b.2,rfl,rfl⟩
  · rename_i hl
    obtain⟨fl,e⟩:=Zq.1 e
    obtain⟨x,hx,e⟩:=Zl e
    obtain⟨L,ro,hq,hL,xl,xf⟩:=Za9 hx
    cases e
    exact .inr ⟨hl,fl,x,L,ro,hq,hL,xl,xf,rfl,rfl⟩
noncomputable def Lu:Kn1:=fun args h=>match args with
  | [.c (.ptr s 0),.c (.int .i64 z)]=>(Ot h s).bind fun S=>(getM h S.dt).bind fun ld=>match Y6 z ld with
    | some y=>Yr (Nat.beq y.length 257&&y.all C.flat) (some (.tup [.g (y.drop 1),.c (.int .i64 0)],h))
    | none=>(Uo h S.tx).bind fun X=>(getM h X.ch).bind fun lc=>match Y6 z lc with
      | some y=>Yr (Nat.beq y.length 256&&y.all C.flat) (some (.tup [.g y,.c (.int .i64 0)],h))
      | none=>(Bn h S.gd).bind fun G=>Yr (Zek h G.li) (R8 [.c (.ptr G.ca 0),.c (.int .i64 z)] h)
  | _=>none
noncomputable def Zch:Kn1:=fun args h=>match args with
  | [.c (.ptr s 0),.c (.int .i64 z)]=>(Ot h s).bind fun S=>(Bn h S.gd).bind fun G=>Yr (decide (z<9223372036854775808)) (bif O6 G.gr G.sz G.ino G.jr z then Lu [.c (.ptr s 0),.c (.int .i64 z)] h else some (.tup [.g zB,.c (.int .i64 2)],h))
  | _=>none
attribute [go_sem] Lu Zch
theorem Qz {s:Nat} {z:Int} {h h':Go.Ev.H} {v:V} (e:Lu [.c (.ptr s 0),.c (.int .i64 z)] h=some (v,h')):∃ S ld,h.get s=some (.row 8 [stL S] false)∧h.get S.dt=some (.map (Jv ld)) ∧
    ((∃ y,Y6 z ld=some y∧y.length=257∧y.all C.flat=true∧v=.tup [.g (y.drop 1),.c (.int .i64 0)]∧h'=h) ∨
     (Y6 z ld=none∧∃ X lc,h.get S.tx=some (.row 13 [txL X] false)∧h.get X.ch=some (.map (Jv lc)) ∧
      ((∃ y,Y6 z lc=some y∧y.length=256∧y.all C.flat=true∧v=.tup [.g y,.c (.int .i64 0)]∧h'=h) ∨
       (Y6 z lc=none∧∃ G,h.get S.gd=some (.row 9 [gdL G] false)∧Y4 G.gr G.sz G.ino G.jr=true∧Zek h G.li=true∧R8 [.c (.ptr G.ca 0),.c (.int .i64 z)] h=some (v,h'))))):=by
  unfold Lu at e
  obtain⟨S,hs,e⟩:=Zl e
  have hs:=Yx hs
  obtain⟨ld,hd,e⟩:=Zl e
  have hd:=getM_some hd
  refine⟨S,ld,hs,hd,?_⟩
  split at e
  · rename_i y hl
    obtain⟨b,e⟩:=Zq.1 e
    rw[Bool.and_eq_true] at b
    cases e
    exact .inl ⟨y,hl,Nat.eq_of_beq_eq_true b.1,b.2,rfl,rfl⟩
  · rename_i hl
    obtain⟨X,ht,e⟩:=Zl e
    have ht:=Ym ht
    obtain⟨lc,hc,e⟩:=Zl e
    have hc:=getM_some hc
    refine .inr ⟨hl,X,lc,ht,hc,?_⟩
    split at e
    · rename_i y hl
      obtain⟨b,e⟩:=Zq.1 e
      rw[Bool.and_eq_true] at b
      cases e
      exact .inl ⟨y,hl,Nat.eq_of_beq_eq_true b.1,b.2,rfl,rfl⟩
    · rename_i hl
      obtain⟨G,hg,e⟩:=Zl e
      obtain⟨hg,fb⟩:=Ja hg
      obtain⟨b,e⟩:=Zq.1 e
      exact .inr ⟨hl,G,hg,fb,b,e⟩
theorem Zho {l:List C} (n:Nat) (h:l.all C.flat=true):(l.drop n).all C.flat=true:=List.all_eq_true.2 fun x hx=>List.all_eq_true.1 h x (List.mem_of_mem_drop hx)
theorem Zgx {l:List C} (n:Nat) (h:l.all C.flat=true):(l.take n).all C.flat=true:=List.all_eq_true.2 fun x hx=>List.all_eq_true.1 h x (List.mem_of_mem_take hx)
theorem Ed {l:List C} {z:Int} (h:l.all C.flat=true):V.flat (.tup [.g l,.c (.int .i64 z)])=true:=by
  show (l.all C.flat&&true)=true
  rw[h]; rfl
section
variable (Hh:Hearts K Tryz.prog)
include Hh
set_option maxHeartbeats 2000000 in
theorem Nh {args:List W} {h h':Go.Ev.H} {v:V} (e:Lu args h=some (v,h')):Ze K Tryz.prog 43 args h v h':=by
  have e0:=e
  unfold Lu at e
  split at e
  · rename_i s z
    clear e
    refine Ze.tidy ⟨Tryz.f43,Tryz.func43,by kernel_rfl,by decide⟩ fun tidy=>?_
    obtain⟨S,ld,hs,hd,⟨y,hl,yl,yf,rfl,rfl⟩|⟨hl,X,lc,ht,hc,⟨y,hl2,yl,yf,rfl,rfl⟩|⟨hl2,G,hg,fb,vl,e⟩⟩⟩:=Qz e0
    · have l1:=tidy _ _ hs
      have l2:=tidy _ _ hd
      have rr:Zb 257 [y] 1 256=some (y.drop 1):=by
        rw[Zm8 (by omega),List.take_of_length_le (by rw[List.length_drop]; omega)]
      have tl:(y.drop 1).length=256:=by rw[List.length_drop]; omega
      obtain⟨v,h2,c,rfl,hk⟩:∃ v h2,Ze K Tryz.prog 43 [.c (.ptr s 0),.c (.int .i64 z)] h' v h2∧v=.tup [.g (y.drop 1),.c (.int .i64 0)]∧∀ m,m<h'.next→h2.get m=h'.get m:=by
        refine Ze.Yi fits Hh (by kernel_rfl) (by kernel_rfl) (by kernel_rfl) (show Tryz.f43.body=some _ from rfl) rfl ?_
        repeat (first|apply Goes.seq|apply Goes.block|apply Goes.loop|apply Goes.skip|apply Goes.exit|apply Goes.ret|((first|apply Goes.Zm|apply Goes.ops2 fits Hh (Zf (Zf (Zf (Zf Zc (fun _ _ _ _=>Ww Hh)) (fun _ _ _ _=>Qh Hh)) (fun _ _ _ _=>Wy Hh)) (fun _ _ _ _=>Xh Hh))); · simp (maxSteps:=9^6) +decide (disch:=first|omega|(simp only[lens]<;>omega)|decide) only [go_sem,Za,simprocAttr,hs,hd,hl,rr,read1]<;>rfl))
        exact⟨_,_,(by simp (maxSteps:=9^6) +decide (disch:=first|omega|(simp only[lens]<;>omega)|decide) only [go_sem,Za,simprocAttr,hs,hd,hl,rr]<;>rfl),rfl,fun m hm=>by (first|(simp (discharger:=omega) only [H.get_put,H.Zi,H.Yd,H.Zg,H.Zj,H.Zr,if_neg]; done)|(simp only[H.get_put,H.Zi,H.Yd,H.Zg,H.Zj,H.Zr]; (repeat' split)<;>first|rfl|(exfalso; omega)|omega))⟩
      exact c.quiet (Ed (Zho 1 yf)) hk
    · have l1:=tidy _ _ hs
      have l2:=tidy _ _ hd
      have l3:=tidy _ _ ht
      have l4:=tidy _ _ hc
      obtain⟨v,h2,c,rfl,hk⟩:∃ v h2,Ze K Tryz.prog 43 [.c (.ptr s 0),.c (.int .i64 z)] h' v h2∧v=.tup [.g y,.c (.int .i64 0)]∧∀ m,m<h'.next→h2.get m=h'.get m:=by
        refine Ze.Yi fits Hh (by kernel_rfl) (by kernel_rfl) (by kernel_rfl) (show Tryz.f43.body=some _ from rfl) rfl ?_
        repeat (first|apply Goes.seq|apply Goes.block|apply Goes.loop|apply Goes.skip|apply Goes.exit|apply Goes.ret|((first|apply Goes.Zm|apply Goes.ops2 fits Hh (Zf (Zf (Zf (Zf Zc (fun _ _ _ _=>Ww Hh)) (fun _ _ _ _=>Qh Hh)) (fun _ _ _ _=>Wy Hh)) (fun _ _ _ _=>Xh Hh))); · simp (maxSteps:=9^6) +decide (disch:=first|omega|(simp only[lens]<;>omega)|decide) only [go_sem,Za,simprocAttr,hs,hd,hl,ht,hc,hl2,yf,read1]<;>rfl))
        exact⟨_,_,(by simp (maxSteps:=9^6) +decide (disch:=first|omega|(simp only[lens]<;>omega)|decide) only [go_sem,Za,simprocAttr,hs,hd,hl]<;>rfl),rfl,fun m hm=>by (first|(simp (discharger:=omega) only [H.get_put,H.Zi,H.Yd,H.Zg,H.Zj,H.Zr,if_neg]; done)|(simp only[H.get_put,H.Zi,H.Yd,H.Zg,H.Zj,H.Zr]; (repeat' split)<;>first|rfl|(exfalso; omega)|omega))⟩
      exact c.quiet (Ed yf) hk
    · obtain⟨k1,k2,k3,k4,k5,k6,ro,hli⟩:=Rj vl
      obtain⟨Y,D,l,hck,hdk,n0,n1,z0,z1,hm,⟨y,hl3,yl,yf,rfl,rfl⟩|⟨hl3,fl,x,L,ro,hq,hL,xl,xf,rfl,rfl⟩⟩:=Zav e
      · have l1:=tidy _ _ hs
        have l2:=tidy _ _ hd
        have l3:=tidy _ _ ht
        have l4:=tidy _ _ hc
        have l5:=tidy _ _ hg
        have l6:=tidy _ _ hck
        have l7:=tidy _ _ hdk
        have l8:=tidy _ _ hm
        have l9:=tidy _ _ hli
        have tl:(y.take 256).length=256:=by rw[List.length_take]; omega
        obtain⟨v,h2,c,rfl,hk⟩:∃ v h2,Ze K Tryz.prog 43 [.c (.ptr s 0),.c (.int .i64 z)] h' v h2∧v=.tup [.g (y.take 256),.c (.int .i64 0)]∧∀ m,m<h'.next→h2.get m=h'.get m:=by
          refine Ze.Yi fits Hh (by kernel_rfl) (by kernel_rfl) (by kernel_rfl) (show Tryz.f43.body=some _ from rfl) rfl ?_
          repeat (first|apply Goes.seq|apply Goes.block|apply Goes.loop|apply Goes.skip|apply Goes.exit|apply Goes.ret|((first|apply Goes.Zm|apply Goes.ops2 fits Hh (Zf (Zf (Zf (Zf Zc (fun _ _ _ _=>Ww Hh)) (fun _ _ _ _=>Qh Hh)) (fun _ _ _ _=>Wy Hh)) (fun _ _ _ _=>Xh Hh))); · simp (maxSteps:=9^6) +decide (disch:=first|omega|(simp only[lens]<;>omega)|decide) only [go_sem,Za,simprocAttr,hs,hd,hl,ht,hc,hl2,hg,gdL,fb,hli,hck,hdk,hm,hl3,yf,zB,read1]<;>rfl))
          exact⟨_,_,(by simp (maxSteps:=9^6) +decide (disch:=first|omega|(simp only[lens]<;>omega)|decide) only [go_sem,Za,simprocAttr]<;>rfl),rfl,fun m hm=>by (first|(simp (discharger:=omega) only [H.get_put,H.Zi,H.Yd,H.Zg,H.Zj,H.Zr,if_neg]; done)|(simp only[H.get_put,H.Zi,H.Yd,H.Zg,H.Zj,H.Zr]; (repeat' split)<;>first|rfl|(exfalso; omega)|omega))⟩
        exact c.quiet (Ed (Zgx 256 yf)) hk
      · have l1:=tidy _ _ hs
        have l2:=tidy _ _ hd
        have l3:=tidy _ _ ht
        have l4:=tidy _ _ hc
        have l5:=tidy _ _ hg
        have l6:=tidy _ _ hck
        have l7:=tidy _ _ hdk
        have l8:=tidy _ _ hm
        have l9:=tidy _ _ hli
        have l10:=tidy _ _ hq
        obtain⟨v,h2,c,rfl,hk⟩:∃ v h2,Ze K Tryz.prog 43 [.c (.ptr s 0),.c (.int .i64 z)] h v h2∧v=.tup [.g x,.c (.int .i64 0)]∧∀ m,m<h.next→h2.get m=(h.put Y.m (.map (Jv (Oc z (x++[.bool false]) l)))).get m:=by
          refine Ze.Yi fits Hh (by kernel_rfl) (by kernel_rfl) (by kernel_rfl) (show Tryz.f43.body=some _ from rfl) rfl ?_
          repeat (first|apply Goes.seq|apply Goes.block|apply Goes.loop|apply Goes.skip|apply Goes.exit|apply Goes.ret|((first|apply Goes.Zm|apply Goes.ops2 fits Hh (Zf (Zf (Zf (Zf Zc (fun _ _ _ _=>Ww Hh)) (fun _ _ _ _=>Qh Hh)) (fun _ _ _ _=>Wy Hh)) (fun _ _ _ _=>Xh Hh))); · simp (maxSteps:=9^6) +decide (disch:=first|omega|(simp only[lens]<;>omega)|decide) only [go_sem,Za,simprocAttr,hs,hd,hl,ht,hc,hl2,hg,gdL,fb,hli,hck,hdk,hm,hl3,hq,hL,xl,xf,fl,zB,read1]<;>rfl))
          exact⟨_,_,(by simp (maxSteps:=9^6) +decide (disch:=first|omega|(simp only[lens]<;>omega)|decide) only [go_sem,Za,simprocAttr]<;>rfl),rfl,fun m hm=>by (first|(simp (discharger:=omega) only [H.get_put,H.Zi,H.Yd,H.Zg,H.Zj,H.Zr,if_neg]; done)|(simp only[H.get_put,H.Zi,H.Yd,H.Zg,H.Zj,H.Zr]; (repeat' split)<;>first|rfl|(exfalso; omega)|omega))⟩
        refine c.settle ((Mv.refl tidy).put l8 (Bj (Ux ?_ fl))) (Zd2.flat (Ed xf)) hk
        rw[List.all_append,xf]; rfl
  · cases e
end
end Go.Proofs.YtgikjeaipmeclaaGreatDoor
