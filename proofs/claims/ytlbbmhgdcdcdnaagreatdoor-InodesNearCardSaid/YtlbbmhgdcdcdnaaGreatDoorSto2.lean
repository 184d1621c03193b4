/- A store at rest: seen, Get. -/
import Derived.Test.YtlbbmhgdcdcdnaaGreatDoorSto
set_option linter.unusedSimpArgs false
set_option linter.unusedVariables false
set_option linter.unusedSectionVars false
set_option maxRecDepth 100000
set_option maxHeartbeats 4000000
namespace Go.Proofs.YtlbbmhgdcdcdnaaGreatDoor
open Go.Ev
theorem rs77:Tryz.f77.results.toList=[.cell 4 85,.tmp 5]:=rfl
theorem rs33:Tryz.f33.results.toList=[.cell 4 85,.tmp 5]:=rfl
attribute [go_sem] rs77 rs33
theorem xCRead_cases {c:Nat} {z:Int} {h h':Go.Ev.H} {v:V} (e:xCRead [.c (.ptr c 0),.c (.int .i64 z)] h=some (v,h')):∃ X D l,h.get c=some (.row 3 [ckL X] false)∧h.get X.d=some (.row 6 [dkL D] false)∧0<D.n∧D.n≤2048∧0≤z∧z<(D.n:Int)∧h.get X.m=some (.map (ents l)) ∧
    ((∃ y,lookE z l=some y∧y.length=257∧y.all C.flat=true∧v=.tup [.g (y.take 256),.c (.int .i64 0)]∧h'=h) ∨
     (lookE z l=none∧flatE l=true∧∃ x L ro,h.get D.q=some (.row 256 L ro)∧L[z.toNat]? = some x∧x.length=256∧x.all C.flat=true∧v=.tup [.g x,.c (.int .i64 0)]∧h'=h.put X.m (.map (ents (updE z (x++[.bool false]) l))))):=by
  unfold xCRead at e
  obtain⟨X,hc,e⟩:=bind_of e
  have hc:=getCk_some hc
  obtain⟨D,hd,e⟩:=bind_of e
  obtain⟨hd,n0,n1⟩:=getDk_some hd
  obtain⟨b,e⟩:=askB_some.1 e
  simp only[Bool.and_eq_true,decide_eq_true_eq] at b
  obtain⟨z0,z1⟩:=b
  obtain⟨l,hm,e⟩:=bind_of e
  have hm:=getM_some hm
  refine⟨X,D,l,hc,hd,n0,n1,z0,z1,hm,?_⟩
  split at e
  · rename_i y hl
    obtain⟨b,e⟩:=askB_some.1 e
    rw[Bool.and_eq_true] at b
    cases e
    exact .inl ⟨y,hl,Nat.eq_of_beq_eq_true b.1,b.2,rfl,rfl⟩
  · rename_i hl
    obtain⟨fl,e⟩:=askB_some.1 e
    obtain⟨x,hx,e⟩:=bind_of e
    obtain⟨L,ro,hq,hL,xl,xf⟩:=getB_some hx
    cases e
    exact .inr ⟨hl,fl,x,L,ro,hq,hL,xl,xf,rfl,rfl⟩
noncomputable def xSSeen:Kn1:=fun args h=>match args with
  | [.c (.ptr s 0),.c (.int .i64 z)]=>(getSt h s).bind fun S=>(getM h S.dt).bind fun ld=>match lookE z ld with
    | some y=>askB (Nat.beq y.length 257&&y.all C.flat) (some (.tup [.g (y.drop 1),.c (.int .i64 0)],h))
    | none=>(getTx h S.tx).bind fun X=>(getM h X.ch).bind fun lc=>match lookE z lc with
      | some y=>askB (Nat.beq y.length 256&&y.all C.flat) (some (.tup [.g y,.c (.int .i64 0)],h))
      | none=>(getGd h S.gd).bind fun G=>askB (voidL h G.li) (xCRead [.c (.ptr G.ca 0),.c (.int .i64 z)] h)
  | _=>none
noncomputable def xSGet:Kn1:=fun args h=>match args with
  | [.c (.ptr s 0),.c (.int .i64 z)]=>(getSt h s).bind fun S=>(getGd h S.gd).bind fun G=>askB (decide (z<9223372036854775808)) (bif oursB G.gr G.sz G.ino G.jr z then xSSeen [.c (.ptr s 0),.c (.int .i64 z)] h else some (.tup [.g zB,.c (.int .i64 2)],h))
  | _=>none
attribute [go_sem] xSSeen xSGet
theorem xSSeen_cases {s:Nat} {z:Int} {h h':Go.Ev.H} {v:V} (e:xSSeen [.c (.ptr s 0),.c (.int .i64 z)] h=some (v,h')):∃ S ld,h.get s=some (.row 8 [stL S] false)∧h.get S.dt=some (.map (ents ld)) ∧
    ((∃ y,lookE z ld=some y∧y.length=257∧y.all C.flat=true∧v=.tup [.g (y.drop 1),.c (.int .i64 0)]∧h'=h) ∨
     (lookE z ld=none∧∃ X lc,h.get S.tx=some (.row 13 [txL X] false)∧h.get X.ch=some (.map (ents lc)) ∧
      ((∃ y,lookE z lc=some y∧y.length=256∧y.all C.flat=true∧v=.tup [.g y,.c (.int .i64 0)]∧h'=h) ∨
       (lookE z lc=none∧∃ G,h.get S.gd=some (.row 9 [gdL G] false)∧fineB G.gr G.sz G.ino G.jr=true∧voidL h G.li=true∧xCRead [.c (.ptr G.ca 0),.c (.int .i64 z)] h=some (v,h'))))):=by
  unfold xSSeen at e
  obtain⟨S,hs,e⟩:=bind_of e
  have hs:=getSt_some hs
  obtain⟨ld,hd,e⟩:=bind_of e
  have hd:=getM_some hd
  refine⟨S,ld,hs,hd,?_⟩
  split at e
  · rename_i y hl
    obtain⟨b,e⟩:=askB_some.1 e
    rw[Bool.and_eq_true] at b
    cases e
    exact .inl ⟨y,hl,Nat.eq_of_beq_eq_true b.1,b.2,rfl,rfl⟩
  · rename_i hl
    obtain⟨X,ht,e⟩:=bind_of e
    have ht:=getTx_some ht
    obtain⟨lc,hc,e⟩:=bind_of e
    have hc:=getM_some hc
    refine .inr ⟨hl,X,lc,ht,hc,?_⟩
    split at e
    · rename_i y hl
      obtain⟨b,e⟩:=askB_some.1 e
      rw[Bool.and_eq_true] at b
      cases e
      exact .inl ⟨y,hl,Nat.eq_of_beq_eq_true b.1,b.2,rfl,rfl⟩
    · rename_i hl
      obtain⟨G,hg,e⟩:=bind_of e
      obtain⟨hg,fb⟩:=getGd_some hg
      obtain⟨b,e⟩:=askB_some.1 e
      exact .inr ⟨hl,G,hg,fb,b,e⟩
theorem flat_drop {l:List C} (n:Nat) (h:l.all C.flat=true):(l.drop n).all C.flat=true:=List.all_eq_true.2 fun x hx=>List.all_eq_true.1 h x (List.mem_of_mem_drop hx)
theorem flat_take {l:List C} (n:Nat) (h:l.all C.flat=true):(l.take n).all C.flat=true:=List.all_eq_true.2 fun x hx=>List.all_eq_true.1 h x (List.mem_of_mem_take hx)
theorem flat_tup {l:List C} {z:Int} (h:l.all C.flat=true):V.flat (.tup [.g l,.c (.int .i64 z)])=true:=by
  show (l.all C.flat&&true)=true
  rw[h]; rfl
section
variable (Hh:Hearts K Tryz.prog)
include Hh
set_option maxHeartbeats 2000000 in
theorem xSSeen_ok {args:List W} {h h':Go.Ev.H} {v:V} (e:xSSeen args h=some (v,h')):CallOk K Tryz.prog 77 args h v h':=by
  have e0:=e
  unfold xSSeen at e
  split at e
  · rename_i s z
    clear e
    refine CallOk.tidy ⟨Tryz.f77,Tryz.func77,by kernel_rfl,by decide⟩ fun tidy=>?_
    obtain⟨S,ld,hs,hd,⟨y,hl,yl,yf,rfl,rfl⟩|⟨hl,X,lc,ht,hc,⟨y,hl2,yl,yf,rfl,rfl⟩|⟨hl2,G,hg,fb,vl,e⟩⟩⟩:=xSSeen_cases e0
    · have l1:=tidy _ _ hs
      have l2:=tidy _ _ hd
      have rr:readRow 257 [y] 1 256=some (y.drop 1):=by
        rw[readRow_at (by omega),List.take_of_length_le (by rw[List.length_drop]; omega)]
      have tl:(y.drop 1).length=256:=by rw[List.length_drop]; omega
      obtain⟨v,h2,c,rfl,hk⟩:∃ v h2,CallOk K Tryz.prog 77 [.c (.ptr s 0),.c (.int .i64 z)] h' v h2∧v=.tup [.g (y.drop 1),.c (.int .i64 0)]∧∀ m,m<h'.next→h2.get m=h'.get m:=by
        refine CallOk.goesE fits Hh (by kernel_rfl) (by kernel_rfl) (by kernel_rfl) (show Tryz.f77.body=some _ from rfl) rfl ?_
        repeat (first
          | refine Goes.seq ?_
          | refine Goes.block ?_
          | refine Goes.loop ?_
          | refine Goes.skip ?_
          | refine Goes.exit ?_
          | refine Goes.ret ?_
          | refine Goes.condV (by simp (maxSteps:=9^6) +decide (disch:=first|omega|(simp only[lens]<;>omega)|decide) only [go_sem,loadIn,simprocAttr,hs,hd,hl,rr,read1]<;>rfl) ?_
          | refine Goes.ops2 fits Hh (EX_sound (EX_sound (EX_sound (EX_sound E0_sound (fun _ _ _ _=>xTGet_ok Hh)) (fun _ _ _ _=>xNGet_ok Hh)) (fun _ _ _ _=>xLGet_ok Hh)) (fun _ _ _ _=>xCRead_ok Hh)) (by simp (maxSteps:=9^6) +decide (disch:=first|omega|(simp only[lens]<;>omega)|decide) only [go_sem,loadIn,simprocAttr,hs,hd,hl,rr,read1]; rfl) ?_)
        exact⟨_,_,(by simp (maxSteps:=9^6) +decide (disch:=first|omega|(simp only[lens]<;>omega)|decide) only [go_sem,loadIn,simprocAttr,hs,hd,hl,rr]<;>rfl),rfl,fun m hm=>by (first|(simp (discharger:=omega) only [H.get_put,H.get_new,H.get_del,H.next_new,H.next_put,H.next_del,if_neg]; done)|(simp only[H.get_put,H.get_new,H.get_del,H.next_new,H.next_put,H.next_del]; (repeat' split)<;>first|rfl|(exfalso; omega)|omega))⟩
      exact c.quiet (flat_tup (flat_drop 1 yf)) hk
    · have l1:=tidy _ _ hs
      have l2:=tidy _ _ hd
      have l3:=tidy _ _ ht
      have l4:=tidy _ _ hc
      obtain⟨v,h2,c,rfl,hk⟩:∃ v h2,CallOk K Tryz.prog 77 [.c (.ptr s 0),.c (.int .i64 z)] h' v h2∧v=.tup [.g y,.c (.int .i64 0)]∧∀ m,m<h'.next→h2.get m=h'.get m:=by
        refine CallOk.goesE fits Hh (by kernel_rfl) (by kernel_rfl) (by kernel_rfl) (show Tryz.f77.body=some _ from rfl) rfl ?_
        repeat (first
          | refine Goes.seq ?_
          | refine Goes.block ?_
          | refine Goes.loop ?_
          | refine Goes.skip ?_
          | refine Goes.exit ?_
          | refine Goes.ret ?_
          | refine Goes.condV (by simp (maxSteps:=9^6) +decide (disch:=first|omega|(simp only[lens]<;>omega)|decide) only [go_sem,loadIn,simprocAttr,hs,hd,hl,ht,hc,hl2,yf,read1]<;>rfl) ?_
          | refine Goes.ops2 fits Hh (EX_sound (EX_sound (EX_sound (EX_sound E0_sound (fun _ _ _ _=>xTGet_ok Hh)) (fun _ _ _ _=>xNGet_ok Hh)) (fun _ _ _ _=>xLGet_ok Hh)) (fun _ _ _ _=>xCRead_ok Hh)) (by simp (maxSteps:=9^6) +decide (disch:=first|omega|(simp only[lens]<;>omega)|decide) only [go_sem,loadIn,simprocAttr,hs,hd,hl,ht,hc,hl2,yf,read1]; rfl) ?_)
        exact⟨_,_,(by simp (maxSteps:=9^6) +decide (disch:=first|omega|(simp only[lens]<;>omega)|decide) only [go_sem,loadIn,simprocAttr,hs,hd,hl]<;>rfl),rfl,fun m hm=>by (first|(simp (discharger:=omega) only [H.get_put,H.get_new,H.get_del,H.next_new,H.next_put,H.next_del,if_neg]; done)|(simp only[H.get_put,H.get_new,H.get_del,H.next_new,H.next_put,H.next_del]; (repeat' split)<;>first|rfl|(exfalso; omega)|omega))⟩
      exact c.quiet (flat_tup yf) hk
    · obtain⟨k1,k2,k3,k4,k5,k6,ro,hli⟩:=voidL_true vl
      obtain⟨Y,D,l,hck,hdk,n0,n1,z0,z1,hm,⟨y,hl3,yl,yf,rfl,rfl⟩|⟨hl3,fl,x,L,ro,hq,hL,xl,xf,rfl,rfl⟩⟩:=xCRead_cases e
      · have l1:=tidy _ _ hs
        have l2:=tidy _ _ hd
        have l3:=tidy _ _ ht
        have l4:=tidy _ _ hc
        have l5:=tidy _ _ hg
        have l6:=tidy _ _ hck
        have l7:=tidy _ _ hdk
        have l8:=tidy _ _ hm
        have l9:=tidy _ _ hli
        have tl:(y.take 256).length=256:=by rw[List.length_take]; omega
        obtain⟨v,h2,c,rfl,hk⟩:∃ v h2,CallOk K Tryz.prog 77 [.c (.ptr s 0),.c (.int .i64 z)] h' v h2∧v=.tup [.g (y.take 256),.c (.int .i64 0)]∧∀ m,m<h'.next→h2.get m=h'.get m:=by
          refine CallOk.goesE fits Hh (by kernel_rfl) (by kernel_rfl) (by kernel_rfl) (show Tryz.f77.body=some _ from rfl) rfl ?_
          repeat (first
            | refine Goes.seq ?_
            | refine Goes.block ?_
            | refine Goes.loop ?_
            | refine Goes.skip ?_
            | refine Goes.exit ?_
            | refine Goes.ret ?_
            | refine Goes.condV (by simp (maxSteps:=9^6) +decide (disch:=first|omega|(simp only[lens]<;>omega)|decide) only [go_sem,loadIn,simprocAttr,hs,hd,hl,ht,hc,hl2,hg,gdL,fb,hli,hck,hdk,hm,hl3,yf,zB,read1]<;>rfl) ?_
            | refine Goes.ops2 fits Hh (EX_sound (EX_sound (EX_sound (EX_sound E0_sound (fun _ _ _ _=>xTGet_ok Hh)) (fun _ _ _ _=>xNGet_ok Hh)) (fun _ _ _ _=>xLGet_ok Hh)) (fun _ _ _ _=>xCRead_ok Hh)) (by simp (maxSteps:=9^6) +decide (disch:=first|omega|(simp only[lens]<;>omega)|decide) only [go_sem,loadIn,simprocAttr,hs,hd,hl,ht,hc,hl2,hg,gdL,fb,hli,hck,hdk,hm,hl3,yf,zB,read1]; rfl) ?_)
          exact⟨_,_,(by simp (maxSteps:=9^6) +decide (disch:=first|omega|(simp only[lens]<;>omega)|decide) only [go_sem,loadIn,simprocAttr]<;>rfl),rfl,fun m hm=>by (first|(simp (discharger:=omega) only [H.get_put,H.get_new,H.get_del,H.next_new,H.next_put,H.next_del,if_neg]; done)|(simp only[H.get_put,H.get_new,H.get_del,H.next_new,H.next_put,H.next_del]; (repeat' split)<;>first|rfl|(exfalso; omega)|omega))⟩
        exact c.quiet (flat_tup (flat_take 256 yf)) hk
      · have l1:=tidy _ _ hs
        have l2:=tidy _ _ hd
        have l3:=tidy _ _ ht
        have l4:=tidy _ _ hc
        have l5:=tidy _ _ hg
        have l6:=tidy _ _ hck
        have l7:=tidy _ _ hdk
        have l8:=tidy _ _ hm
        have l9:=tidy _ _ hli
        have l10:=tidy _ _ hq
        obtain⟨v,h2,c,rfl,hk⟩:∃ v h2,CallOk K Tryz.prog 77 [.c (.ptr s 0),.c (.int .i64 z)] h v h2∧v=.tup [.g x,.c (.int .i64 0)]∧∀ m,m<h.next→h2.get m=(h.put Y.m (.map (ents (updE z (x++[.bool false]) l)))).get m:=by
          refine CallOk.goesE fits Hh (by kernel_rfl) (by kernel_rfl) (by kernel_rfl) (show Tryz.f77.body=some _ from rfl) rfl ?_
          repeat (first
            | refine Goes.seq ?_
            | refine Goes.block ?_
            | refine Goes.loop ?_
            | refine Goes.skip ?_
            | refine Goes.exit ?_
            | refine Goes.ret ?_
            | refine Goes.condV (by simp (maxSteps:=9^6) +decide (disch:=first|omega|(simp only[lens]<;>omega)|decide) only [go_sem,loadIn,simprocAttr,hs,hd,hl,ht,hc,hl2,hg,gdL,fb,hli,hck,hdk,hm,hl3,hq,hL,xl,xf,fl,zB,read1]<;>rfl) ?_
            | refine Goes.ops2 fits Hh (EX_sound (EX_sound (EX_sound (EX_sound E0_sound (fun _ _ _ _=>xTGet_ok Hh)) (fun _ _ _ _=>xNGet_ok Hh)) (fun _ _ _ _=>xLGet_ok Hh)) (fun _ _ _ _=>xCRead_ok Hh)) (by simp (maxSteps:=9^6) +decide (disch:=first|omega|(simp only[lens]<;>omega)|decide) only [go_sem,loadIn,simprocAttr,hs,hd,hl,ht,hc,hl2,hg,gdL,fb,hli,hck,hdk,hm,hl3,hq,hL,xl,xf,fl,zB,read1]; rfl) ?_)
          exact⟨_,_,(by simp (maxSteps:=9^6) +decide (disch:=first|omega|(simp only[lens]<;>omega)|decide) only [go_sem,loadIn,simprocAttr]<;>rfl),rfl,fun m hm=>by (first|(simp (discharger:=omega) only [H.get_put,H.get_new,H.get_del,H.next_new,H.next_put,H.next_del,if_neg]; done)|(simp only[H.get_put,H.get_new,H.get_del,H.next_new,H.next_put,H.next_del]; (repeat' split)<;>first|rfl|(exfalso; omega)|omega))⟩
        refine c.settle ((NearH.refl tidy).put l8 (low_map (flat_upd ?_ fl))) (LowV.flat (flat_tup xf)) hk
        rw[List.all_append,xf]; rfl
  · cases e
end
end Go.Proofs.YtlbbmhgdcdcdnaaGreatDoor
