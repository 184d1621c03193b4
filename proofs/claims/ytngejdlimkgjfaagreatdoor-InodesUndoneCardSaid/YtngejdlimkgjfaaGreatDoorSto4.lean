/- A store at rest: seen, Get. -/
import Derived.Test.YtngejdlimkgjfaaGreatDoorNew2
set_option linter.unusedSimpArgs false
set_option linter.unusedVariables false
set_option linter.unusedSectionVars false
set_option maxRecDepth 100000
set_option maxHeartbeats 4000000
namespace Go.Proofs.YtngejdlimkgjfaaGreatDoor
open Go.Ev
theorem rs22:Tryz.f22.results.toList=[.cell 4 47,.tmp 5]:=rfl
theorem rs34:Tryz.f34.results.toList=[.cell 4 47,.tmp 5]:=rfl
attribute [go_sem] rs22 rs34
theorem Zc7 {c:Nat} {z:Int} {h h':Go.Ev.H} {v:V} (e:N7 [.c (.ptr c 0),.c (.int .i64 z)] h=some (v,h')):∃ X D l,h.get c=some (.row 3 [ckL X] false)∧h.get X.d=some (.row 6 [dkL D] false)∧0<D.n∧D.n≤2048∧0≤z∧z<(D.n:Int)∧h.get X.m=some (.map (J5 l)) ∧
    ((∃ y,Oi z l=some y∧y.length=257∧y.all C.flat=true∧v=.tup [.g (y.take 256),.c (.int .i64 0)]∧h'=h) ∨
     (Oi z l=none∧Gc l=true∧∃ x L ro,h.get D.q=some (.row 256 L ro)∧L[z.toNat]? = some x∧x.length=256∧x.all C.flat=true∧v=.tup [.g x,.c (.int .i64 0)]∧h'=h.put X.m (.map (J5 (J2 z (x++[.bool false]) l))))):=by
  unfold N7 at e
  obtain⟨X,hc,e⟩:=Zo e
  have hc:=V5 hc
  obtain⟨D,hd,e⟩:=Zo e
  obtain⟨hd,n0,n1⟩:=O8 hd
  obtain⟨b,e⟩:=Zv.1 e
  simp only[Bool.and_eq_true,decide_eq_true_eq] at b
  obtain⟨z0,z1⟩:=b
  obtain⟨l,hm,e⟩:=Zo e
  have hm:=getM_some hm
  refine⟨X,D,l,hc,hd,n0,n1,z0,z1,hm,?_⟩
  split at e
  · rename_i y hl
    obtain⟨b,e⟩:=Zv.1 e
    rw[Bool.and_eq_true] at b
    cases e
    exact .inl ⟨y,hl,Nat.eq_of_beq_eq_true b.1,b.2,rfl,rfl⟩
  · rename_i hl
    obtain⟨fl,e⟩:=Zv.1 e
    obtain⟨x,hx,e⟩:=Zo e
    obtain⟨L,ro,hq,hL,xl,xf⟩:=Zd2 hx
    cases e
    exact .inr ⟨hl,fl,x,L,ro,hq,hL,xl,xf,rfl,rfl⟩
noncomputable def Fy:Kn1:=fun args h=>match args with
  | [.c (.ptr s 0),.c (.int .i64 z)]=>(M3 h s).bind fun S=>(getM h S.dt).bind fun ld=>match Oi z ld with
    | some y=>Y9 (Nat.beq y.length 257&&y.all C.flat) (some (.tup [.g (y.drop 1),.c (.int .i64 0)],h))
    | none=>(Bi h S.tx).bind fun X=>(getM h X.ch).bind fun lc=>match Oi z lc with
      | some y=>Y9 (Nat.beq y.length 256&&y.all C.flat) (some (.tup [.g y,.c (.int .i64 0)],h))
      | none=>(Xq h S.gd).bind fun G=>Y9 (Zie h G.li) (N7 [.c (.ptr G.ca 0),.c (.int .i64 z)] h)
  | _=>none
noncomputable def Zew:Kn1:=fun args h=>match args with
  | [.c (.ptr s 0),.c (.int .i64 z)]=>(M3 h s).bind fun S=>(Xq h S.gd).bind fun G=>Y9 (decide (z<9223372036854775808)) (bif La G.gr G.sz G.ino G.jr z then Fy [.c (.ptr s 0),.c (.int .i64 z)] h else some (.tup [.g zB,.c (.int .i64 2)],h))
  | _=>none
attribute [go_sem] Fy Zew
theorem Zbk {s:Nat} {z:Int} {h h':Go.Ev.H} {v:V} (e:Fy [.c (.ptr s 0),.c (.int .i64 z)] h=some (v,h')):∃ S ld,h.get s=some (.row 8 [stL S] false)∧h.get S.dt=some (.map (J5 ld)) ∧
    ((∃ y,Oi z ld=some y∧y.length=257∧y.all C.flat=true∧v=.tup [.g (y.drop 1),.c (.int .i64 0)]∧h'=h) ∨
     (Oi z ld=none∧∃ X lc,h.get S.tx=some (.row 13 [txL X] false)∧h.get X.ch=some (.map (J5 lc)) ∧
      ((∃ y,Oi z lc=some y∧y.length=256∧y.all C.flat=true∧v=.tup [.g y,.c (.int .i64 0)]∧h'=h) ∨
       (Oi z lc=none∧∃ G,h.get S.gd=some (.row 9 [gdL G] false)∧Jm G.gr G.sz G.ino G.jr=true∧Zie h G.li=true∧N7 [.c (.ptr G.ca 0),.c (.int .i64 z)] h=some (v,h'))))):=by
  unfold Fy at e
  obtain⟨S,hs,e⟩:=Zo e
  have hs:=Ob hs
  obtain⟨ld,hd,e⟩:=Zo e
  have hd:=getM_some hd
  refine⟨S,ld,hs,hd,?_⟩
  split at e
  · rename_i y hl
    obtain⟨b,e⟩:=Zv.1 e
    rw[Bool.and_eq_true] at b
    cases e
    exact .inl ⟨y,hl,Nat.eq_of_beq_eq_true b.1,b.2,rfl,rfl⟩
  · rename_i hl
    obtain⟨X,ht,e⟩:=Zo e
    have ht:=Jj ht
    obtain⟨lc,hc,e⟩:=Zo e
    have hc:=getM_some hc
    refine .inr ⟨hl,X,lc,ht,hc,?_⟩
    split at e
    · rename_i y hl
      obtain⟨b,e⟩:=Zv.1 e
      rw[Bool.and_eq_true] at b
      cases e
      exact .inl ⟨y,hl,Nat.eq_of_beq_eq_true b.1,b.2,rfl,rfl⟩
    · rename_i hl
      obtain⟨G,hg,e⟩:=Zo e
      obtain⟨hg,fb⟩:=Bq hg
      obtain⟨b,e⟩:=Zv.1 e
      exact .inr ⟨hl,G,hg,fb,b,e⟩
theorem Zjp {l:List C} (n:Nat) (h:l.all C.flat=true):(l.drop n).all C.flat=true:=List.all_eq_true.2 fun x hx=>List.all_eq_true.1 h x (List.mem_of_mem_drop hx)
theorem Zkd {l:List C} (n:Nat) (h:l.all C.flat=true):(l.take n).all C.flat=true:=List.all_eq_true.2 fun x hx=>List.all_eq_true.1 h x (List.mem_of_mem_take hx)
theorem Fq {l:List C} {z:Int} (h:l.all C.flat=true):V.flat (.tup [.g l,.c (.int .i64 z)])=true:=by
  show (l.all C.flat&&true)=true
  rw[h]; rfl
section
variable (Hh:Hearts K Tryz.prog)
include Hh
set_option maxHeartbeats 2000000 in
theorem Nh {args:List W} {h h':Go.Ev.H} {v:V} (e:Fy args h=some (v,h')):Ze K Tryz.prog 22 args h v h':=by
  have e0:=e
  unfold Fy at e
  split at e
  · rename_i s z
    clear e
    refine Ze.tidy ⟨Tryz.f22,Tryz.func22,by kernel_rfl,by decide⟩ fun tidy=>?_
    obtain⟨S,ld,hs,hd,⟨y,hl,yl,yf,rfl,rfl⟩|⟨hl,X,lc,ht,hc,⟨y,hl2,yl,yf,rfl,rfl⟩|⟨hl2,G,hg,fb,vl,e⟩⟩⟩:=Zbk e0
    · have l1:=tidy _ _ hs
      have l2:=tidy _ _ hd
      have rr:Zf 257 [y] 1 256=some (y.drop 1):=by
        rw[Zqn (by omega),List.take_of_length_le (by rw[List.length_drop]; omega)]
      have tl:(y.drop 1).length=256:=by rw[List.length_drop]; omega
      obtain⟨v,h2,c,rfl,hk⟩:∃ v h2,Ze K Tryz.prog 22 [.c (.ptr s 0),.c (.int .i64 z)] h' v h2∧v=.tup [.g (y.drop 1),.c (.int .i64 0)]∧∀ m,m<h'.next→h2.get m=h'.get m:=by
        refine Ze.Z8 fits Hh (by kernel_rfl) (by kernel_rfl) (by kernel_rfl) (show Tryz.f22.body=some _ from rfl) rfl ?_
        repeat (first|apply Goes.seq|apply Goes.block|apply Goes.loop|apply Goes.skip|apply Goes.exit|apply Goes.ret|((first|apply Goes.Zr|apply Goes.ops2 fits Hh (Zh (Zh (Zh (Zh Zc (fun _ _ _ _=>Zbp Hh)) (fun _ _ _ _=>Zcg Hh)) (fun _ _ _ _=>Zb0 Hh)) (fun _ _ _ _=>Qq Hh))); · simp (maxSteps:=9^6) +decide (disch:=first|omega|(simp only[lens]<;>omega)|decide) only [go_sem,Za,simprocAttr,hs,hd,hl,rr,read1]<;>rfl))
        exact⟨_,_,(by simp (maxSteps:=9^6) +decide (disch:=first|omega|(simp only[lens]<;>omega)|decide) only [go_sem,Za,simprocAttr,hs,hd,hl,rr]<;>rfl),rfl,fun m hm=>by (first|(simp (discharger:=omega) only [H.get_put,H.Zi,H.Zm,H.Zd,H.Zg,H.Zj,if_neg]; done)|(simp only[H.get_put,H.Zi,H.Zm,H.Zd,H.Zg,H.Zj]; (repeat' split)<;>first|rfl|(exfalso; omega)|omega))⟩
      exact c.quiet (Fq (Zjp 1 yf)) hk
    · have l1:=tidy _ _ hs
      have l2:=tidy _ _ hd
      have l3:=tidy _ _ ht
      have l4:=tidy _ _ hc
      obtain⟨v,h2,c,rfl,hk⟩:∃ v h2,Ze K Tryz.prog 22 [.c (.ptr s 0),.c (.int .i64 z)] h' v h2∧v=.tup [.g y,.c (.int .i64 0)]∧∀ m,m<h'.next→h2.get m=h'.get m:=by
        refine Ze.Z8 fits Hh (by kernel_rfl) (by kernel_rfl) (by kernel_rfl) (show Tryz.f22.body=some _ from rfl) rfl ?_
        repeat (first|apply Goes.seq|apply Goes.block|apply Goes.loop|apply Goes.skip|apply Goes.exit|apply Goes.ret|((first|apply Goes.Zr|apply Goes.ops2 fits Hh (Zh (Zh (Zh (Zh Zc (fun _ _ _ _=>Zbp Hh)) (fun _ _ _ _=>Zcg Hh)) (fun _ _ _ _=>Zb0 Hh)) (fun _ _ _ _=>Qq Hh))); · simp (maxSteps:=9^6) +decide (disch:=first|omega|(simp only[lens]<;>omega)|decide) only [go_sem,Za,simprocAttr,hs,hd,hl,ht,hc,hl2,yf,read1]<;>rfl))
        exact⟨_,_,(by simp (maxSteps:=9^6) +decide (disch:=first|omega|(simp only[lens]<;>omega)|decide) only [go_sem,Za,simprocAttr,hs,hd,hl]<;>rfl),rfl,fun m hm=>by (first|(simp (discharger:=omega) only [H.get_put,H.Zi,H.Zm,H.Zd,H.Zg,H.Zj,if_neg]; done)|(simp only[H.get_put,H.Zi,H.Zm,H.Zd,H.Zg,H.Zj]; (repeat' split)<;>first|rfl|(exfalso; omega)|omega))⟩
      exact c.quiet (Fq yf) hk
    · obtain⟨k1,k2,k3,k4,k5,k6,ro,hli⟩:=V7 vl
      obtain⟨Y,D,l,hck,hdk,n0,n1,z0,z1,hm,⟨y,hl3,yl,yf,rfl,rfl⟩|⟨hl3,fl,x,L,ro,hq,hL,xl,xf,rfl,rfl⟩⟩:=Zc7 e
      · have l1:=tidy _ _ hs
        have l2:=tidy _ _ hd
        have l3:=tidy _ _ ht
        have l4:=tidy _ _ hc
        have l5:=tidy _ _ hg
        have l6:=tidy _ _ hck
        have l7:=tidy _ _ hdk
        have l8:=tidy _ _ hm
        have l9:=tidy _ _ hli
        have tl:(y.take 256).length=256:=by rw[List.length_take]; omega
        obtain⟨v,h2,c,rfl,hk⟩:∃ v h2,Ze K Tryz.prog 22 [.c (.ptr s 0),.c (.int .i64 z)] h' v h2∧v=.tup [.g (y.take 256),.c (.int .i64 0)]∧∀ m,m<h'.next→h2.get m=h'.get m:=by
          refine Ze.Z8 fits Hh (by kernel_rfl) (by kernel_rfl) (by kernel_rfl) (show Tryz.f22.body=some _ from rfl) rfl ?_
          repeat (first|apply Goes.seq|apply Goes.block|apply Goes.loop|apply Goes.skip|apply Goes.exit|apply Goes.ret|((first|apply Goes.Zr|apply Goes.ops2 fits Hh (Zh (Zh (Zh (Zh Zc (fun _ _ _ _=>Zbp Hh)) (fun _ _ _ _=>Zcg Hh)) (fun _ _ _ _=>Zb0 Hh)) (fun _ _ _ _=>Qq Hh))); · simp (maxSteps:=9^6) +decide (disch:=first|omega|(simp only[lens]<;>omega)|decide) only [go_sem,Za,simprocAttr,hs,hd,hl,ht,hc,hl2,hg,gdL,fb,hli,hck,hdk,hm,hl3,yf,zB,read1]<;>rfl))
          exact⟨_,_,(by simp (maxSteps:=9^6) +decide (disch:=first|omega|(simp only[lens]<;>omega)|decide) only [go_sem,Za,simprocAttr]<;>rfl),rfl,fun m hm=>by (first|(simp (discharger:=omega) only [H.get_put,H.Zi,H.Zm,H.Zd,H.Zg,H.Zj,if_neg]; done)|(simp only[H.get_put,H.Zi,H.Zm,H.Zd,H.Zg,H.Zj]; (repeat' split)<;>first|rfl|(exfalso; omega)|omega))⟩
        exact c.quiet (Fq (Zkd 256 yf)) hk
      · have l1:=tidy _ _ hs
        have l2:=tidy _ _ hd
        have l3:=tidy _ _ ht
        have l4:=tidy _ _ hc
        have l5:=tidy _ _ hg
        have l6:=tidy _ _ hck
        have l7:=tidy _ _ hdk
        have l8:=tidy _ _ hm
        have l9:=tidy _ _ hli
        have l10:=tidy _ _ hq
        obtain⟨v,h2,c,rfl,hk⟩:∃ v h2,Ze K Tryz.prog 22 [.c (.ptr s 0),.c (.int .i64 z)] h v h2∧v=.tup [.g x,.c (.int .i64 0)]∧∀ m,m<h.next→h2.get m=(h.put Y.m (.map (J5 (J2 z (x++[.bool false]) l)))).get m:=by
          refine Ze.Z8 fits Hh (by kernel_rfl) (by kernel_rfl) (by kernel_rfl) (show Tryz.f22.body=some _ from rfl) rfl ?_
          repeat (first|apply Goes.seq|apply Goes.block|apply Goes.loop|apply Goes.skip|apply Goes.exit|apply Goes.ret|((first|apply Goes.Zr|apply Goes.ops2 fits Hh (Zh (Zh (Zh (Zh Zc (fun _ _ _ _=>Zbp Hh)) (fun _ _ _ _=>Zcg Hh)) (fun _ _ _ _=>Zb0 Hh)) (fun _ _ _ _=>Qq Hh))); · simp (maxSteps:=9^6) +decide (disch:=first|omega|(simp only[lens]<;>omega)|decide) only [go_sem,Za,simprocAttr,hs,hd,hl,ht,hc,hl2,hg,gdL,fb,hli,hck,hdk,hm,hl3,hq,hL,xl,xf,fl,zB,read1]<;>rfl))
          exact⟨_,_,(by simp (maxSteps:=9^6) +decide (disch:=first|omega|(simp only[lens]<;>omega)|decide) only [go_sem,Za,simprocAttr]<;>rfl),rfl,fun m hm=>by (first|(simp (discharger:=omega) only [H.get_put,H.Zi,H.Zm,H.Zd,H.Zg,H.Zj,if_neg]; done)|(simp only[H.get_put,H.Zi,H.Zm,H.Zd,H.Zg,H.Zj]; (repeat' split)<;>first|rfl|(exfalso; omega)|omega))⟩
        refine c.settle ((Np.refl tidy).put l8 (M7 (Bv ?_ fl))) (Ze9.flat (Fq xf)) hk
        rw[List.all_append,xf]; rfl
  · cases e
end
end Go.Proofs.YtngejdlimkgjfaaGreatDoor
set_option maxRecDepth 100000
set_option maxHeartbeats 4000000
namespace Go.Proofs.YtngejdlimkgjfaaGreatDoor
open Go.Ev
theorem Z0s:∀ {S S':Stt},stL S=stL S'→S=S'
 | ⟨a,b,c,d,e,f⟩,⟨a',b',c',d',e',f'⟩,h=>by
  have h':[C.ptr a 0,.ptr b 0,.pnil,.map c,.map d,e,.bool f,.bool false]=[C.ptr a' 0,.ptr b' 0,.pnil,.map c',.map d',e',.bool f',.bool false]:=h
  cases h'
  rfl
theorem Z18:∀ {G G':Gd},gdL G=gdL G'→G=G'
 | ⟨a,b,c,d,e,f,g,i,j⟩,⟨a',b',c',d',e',f',g',i',j'⟩,h=>by
  have h':[C.int .i64 (a:Int),.int .i64 (b:Int),.int .i64 (c:Int),.int .i64 (d:Int),.int .u8 e,.ptr f 0,.ptr g 0,.ptr i 0,.ptr j 0]=[C.int .i64 (a':Int),.int .i64 (b':Int),.int .i64 (c':Int),.int .i64 (d':Int),.int .u8 e',.ptr f' 0,.ptr g' 0,.ptr i' 0,.ptr j' 0]:=h
  simp only[List.cons.injEq,C.int.injEq,C.ptr.injEq,and_true,true_and,Int.ofNat_inj] at h'
  obtain⟨rfl,rfl,rfl,rfl,rfl,rfl,rfl,rfl,rfl⟩:=h'
  rfl
section
variable (Hh:Hearts K Tryz.prog)
include Hh
set_option maxHeartbeats 4000000 in
theorem Wl {args:List W} {h h':Go.Ev.H} {v:V} (e:Zew args h=some (v,h')):Ze K Tryz.prog 34 args h v h':=by
 unfold Zew at e
 split at e
 ·rename_i s z
  obtain⟨S0,hs0,e⟩:=Zo e
  obtain⟨G0,hg0,e⟩:=Zo e
  obtain⟨bz,e⟩:=Zv.1 e
  have z1:=of_decide_eq_true bz
  have hs:=Ob hs0
  obtain⟨hg,fb⟩:=Bq hg0
  refine Ze.tidy ⟨Tryz.f34,Tryz.func34,by kernel_rfl,by decide⟩ fun tidy=>?_
  have l1:=tidy _ _ hs
  have l5:=tidy _ _ hg
  rcases hb:La G0.gr G0.sz G0.ino G0.jr z with _|_
  ·rw[hb] at e
   cases e
   obtain⟨v,h2,c,rfl,hk⟩:∃ v h2,Ze K Tryz.prog 34 [.c (.ptr s 0),.c (.int .i64 z)] h v h2∧v=.tup [.g zB,.c (.int .i64 2)]∧∀ m,m<h.next→h2.get m=h.get m:=by
    refine Ze.Z8 fits Hh (by kernel_rfl) (by kernel_rfl) (by kernel_rfl) (show Tryz.f34.body=some _ from rfl) rfl ?_
    repeat (first|apply Goes.seq|apply Goes.block|apply Goes.loop|apply Goes.skip|apply Goes.exit|apply Goes.ret|((first|apply Goes.Zr|apply Goes.ops2 fits Hh (Zh (Zh (Zh Zc (fun _ _ _ _=>Gz Hh)) (fun _ _ _ _=>Fb Hh)) (fun _ _ _ _=>Nh Hh))); · simp (maxSteps:=9^6) +decide (disch:=first|omega|(simp only[lens]<;>omega)|decide) only [go_sem,Za,simprocAttr,hs,hg,gdL,fb,hb,zB,read1]<;>rfl))
    exact⟨_,_,(by simp (maxSteps:=9^6) +decide (disch:=first|omega|(simp only[lens]<;>omega)|decide) only [go_sem,Za,simprocAttr,zB]<;>rfl),rfl,fun m hm=>by (first|(simp (discharger:=omega) only [H.get_put,H.Zi,H.Zm,H.Zd,H.Zg,H.Zj,if_neg]; done)|(simp only[H.get_put,H.Zi,H.Zm,H.Zd,H.Zg,H.Zj]; (repeat' split)<;>first|rfl|(exfalso; omega)|omega))⟩
   exact c.quiet (Fq Ztc) hk
  ·rw[hb] at e
   have e:Fy [.c (.ptr s 0),.c (.int .i64 z)] h=some (v,h'):=e
   obtain⟨S,ld,hs2,hd,q⟩:=Zbk e
   have eS:S0=S:=by
    rw[hs] at hs2
    have e1:stL S0=stL S:=by simpa using hs2
    exact Z0s e1
   subst eS
   have l2:=tidy _ _ hd
   obtain⟨y,hl,yl,yf,rfl,rfl⟩|⟨hl,X,lc,ht,hc,⟨y,hl2,yl,yf,rfl,rfl⟩|⟨hl2,G,hg2,fb2,vl,e⟩⟩:=q
   ·have tl:(y.drop 1).length=256:=by rw[List.length_drop]; omega
    obtain⟨v,h2,c,rfl,hk⟩:∃ v h2,Ze K Tryz.prog 34 [.c (.ptr s 0),.c (.int .i64 z)] h' v h2∧v=.tup [.g (y.drop 1),.c (.int .i64 0)]∧∀ m,m<h'.next→h2.get m=h'.get m:=by
     refine Ze.Z8 fits Hh (by kernel_rfl) (by kernel_rfl) (by kernel_rfl) (show Tryz.f34.body=some _ from rfl) rfl ?_
     repeat (first|apply Goes.seq|apply Goes.block|apply Goes.loop|apply Goes.skip|apply Goes.exit|apply Goes.ret|((first|apply Goes.Zr|apply Goes.ops2 fits Hh (Zh (Zh (Zh Zc (fun _ _ _ _=>Gz Hh)) (fun _ _ _ _=>Fb Hh)) (fun _ _ _ _=>Nh Hh))); · simp (maxSteps:=9^6) +decide (disch:=first|omega|(simp only[lens]<;>omega)|decide) only [go_sem,Za,simprocAttr,hs,hg,gdL,fb,hb,hd,hl,yl,yf,read1]<;>rfl))
     exact⟨_,_,(by simp (maxSteps:=9^6) +decide (disch:=first|omega|(simp only[lens]<;>omega)|decide) only [go_sem,Za,simprocAttr]<;>rfl),rfl,fun m hm=>by (first|(simp (discharger:=omega) only [H.get_put,H.Zi,H.Zm,H.Zd,H.Zg,H.Zj,if_neg]; done)|(simp only[H.get_put,H.Zi,H.Zm,H.Zd,H.Zg,H.Zj]; (repeat' split)<;>first|rfl|(exfalso; omega)|omega))⟩
    exact c.quiet (Fq (Zjp 1 yf)) hk
   ·have l3:=tidy _ _ ht
    have l4:=tidy _ _ hc
    obtain⟨v,h2,c,rfl,hk⟩:∃ v h2,Ze K Tryz.prog 34 [.c (.ptr s 0),.c (.int .i64 z)] h' v h2∧v=.tup [.g y,.c (.int .i64 0)]∧∀ m,m<h'.next→h2.get m=h'.get m:=by
     refine Ze.Z8 fits Hh (by kernel_rfl) (by kernel_rfl) (by kernel_rfl) (show Tryz.f34.body=some _ from rfl) rfl ?_
     repeat (first|apply Goes.seq|apply Goes.block|apply Goes.loop|apply Goes.skip|apply Goes.exit|apply Goes.ret|((first|apply Goes.Zr|apply Goes.ops2 fits Hh (Zh (Zh (Zh Zc (fun _ _ _ _=>Gz Hh)) (fun _ _ _ _=>Fb Hh)) (fun _ _ _ _=>Nh Hh))); · simp (maxSteps:=9^6) +decide (disch:=first|omega|(simp only[lens]<;>omega)|decide) only [go_sem,Za,simprocAttr,hs,hg,gdL,fb,hb,hd,hl,ht,hc,hl2,yl,yf,read1]<;>rfl))
     exact⟨_,_,(by simp (maxSteps:=9^6) +decide (disch:=first|omega|(simp only[lens]<;>omega)|decide) only [go_sem,Za,simprocAttr]<;>rfl),rfl,fun m hm=>by (first|(simp (discharger:=omega) only [H.get_put,H.Zi,H.Zm,H.Zd,H.Zg,H.Zj,if_neg]; done)|(simp only[H.get_put,H.Zi,H.Zm,H.Zd,H.Zg,H.Zj]; (repeat' split)<;>first|rfl|(exfalso; omega)|omega))⟩
    exact c.quiet (Fq yf) hk
   ·have eG:G0=G:=by
     rw[hg] at hg2
     have e1:gdL G0=gdL G:=by simpa using hg2
     exact Z18 e1
    subst eG
    obtain⟨k1,k2,k3,k4,k5,k6,ro,hli⟩:=V7 vl
    obtain⟨Y,D,l,hck,hdk,n0,n1,z0,z2,hm,⟨y,hl3,yl,yf,rfl,rfl⟩|⟨hl3,fl,x,L,ro,hq,hL,xl,xf,rfl,rfl⟩⟩:=Zc7 e
    ·have l3:=tidy _ _ ht
     have l4:=tidy _ _ hc
     have l6:=tidy _ _ hck
     have l7:=tidy _ _ hdk
     have l8:=tidy _ _ hm
     have l9:=tidy _ _ hli
     have l10:=tidy _ _ hg2
     have tl:(y.take 256).length=256:=by rw[List.length_take]; omega
     obtain⟨v,h2,c,rfl,hk⟩:∃ v h2,Ze K Tryz.prog 34 [.c (.ptr s 0),.c (.int .i64 z)] h' v h2∧v=.tup [.g (y.take 256),.c (.int .i64 0)]∧∀ m,m<h'.next→h2.get m=h'.get m:=by
      refine Ze.Z8 fits Hh (by kernel_rfl) (by kernel_rfl) (by kernel_rfl) (show Tryz.f34.body=some _ from rfl) rfl ?_
      repeat (first|apply Goes.seq|apply Goes.block|apply Goes.loop|apply Goes.skip|apply Goes.exit|apply Goes.ret|((first|apply Goes.Zr|apply Goes.ops2 fits Hh (Zh (Zh (Zh Zc (fun _ _ _ _=>Gz Hh)) (fun _ _ _ _=>Fb Hh)) (fun _ _ _ _=>Nh Hh))); · simp (maxSteps:=9^6) +decide (disch:=first|omega|(simp only[lens]<;>omega)|decide) only [go_sem,Za,simprocAttr,hs,hg2,gdL,fb,fb2,hb,hd,hl,ht,hc,hl2,hli,hck,hdk,hm,hl3,yl,yf,zB,read1]<;>rfl))
      exact⟨_,_,(by simp (maxSteps:=9^6) +decide (disch:=first|omega|(simp only[lens]<;>omega)|decide) only [go_sem,Za,simprocAttr]<;>rfl),rfl,fun m hm=>by (first|(simp (discharger:=omega) only [H.get_put,H.Zi,H.Zm,H.Zd,H.Zg,H.Zj,if_neg]; done)|(simp only[H.get_put,H.Zi,H.Zm,H.Zd,H.Zg,H.Zj]; (repeat' split)<;>first|rfl|(exfalso; omega)|omega))⟩
     exact c.quiet (Fq (Zkd 256 yf)) hk
    ·have l3:=tidy _ _ ht
     have l4:=tidy _ _ hc
     have l6:=tidy _ _ hck
     have l7:=tidy _ _ hdk
     have l8:=tidy _ _ hm
     have l9:=tidy _ _ hli
     have l10:=tidy _ _ hg2
     have l11:=tidy _ _ hq
     obtain⟨v,h2,c,rfl,hk⟩:∃ v h2,Ze K Tryz.prog 34 [.c (.ptr s 0),.c (.int .i64 z)] h v h2∧v=.tup [.g x,.c (.int .i64 0)]∧∀ m,m<h.next→h2.get m=(h.put Y.m (.map (J5 (J2 z (x++[.bool false]) l)))).get m:=by
      refine Ze.Z8 fits Hh (by kernel_rfl) (by kernel_rfl) (by kernel_rfl) (show Tryz.f34.body=some _ from rfl) rfl ?_
      repeat (first|apply Goes.seq|apply Goes.block|apply Goes.loop|apply Goes.skip|apply Goes.exit|apply Goes.ret|((first|apply Goes.Zr|apply Goes.ops2 fits Hh (Zh (Zh (Zh Zc (fun _ _ _ _=>Gz Hh)) (fun _ _ _ _=>Fb Hh)) (fun _ _ _ _=>Nh Hh))); · simp (maxSteps:=9^6) +decide (disch:=first|omega|(simp only[lens]<;>omega)|decide) only [go_sem,Za,simprocAttr,hs,hg2,gdL,fb,fb2,hb,hd,hl,ht,hc,hl2,hli,hck,hdk,hm,hl3,hq,hL,xl,xf,fl,zB,read1]<;>rfl))
      exact⟨_,_,(by simp (maxSteps:=9^6) +decide (disch:=first|omega|(simp only[lens]<;>omega)|decide) only [go_sem,Za,simprocAttr]<;>rfl),rfl,fun m hm=>by (first|(simp (discharger:=omega) only [H.get_put,H.Zi,H.Zm,H.Zd,H.Zg,H.Zj,if_neg]; done)|(simp only[H.get_put,H.Zi,H.Zm,H.Zd,H.Zg,H.Zj]; (repeat' split)<;>first|rfl|(exfalso; omega)|omega))⟩
     refine c.settle ((Np.refl tidy).put l8 (M7 (Bv ?_ fl))) (Ze9.flat (Fq xf)) hk
     rw[List.all_append,xf]; rfl
 ·cases e
end
end Go.Proofs.YtngejdlimkgjfaaGreatDoor
set_option maxRecDepth 100000
set_option maxHeartbeats 4000000
namespace Go.Proofs.YtngejdlimkgjfaaGreatDoor
open Go.Ev
theorem rs88:Tryz.f88.results.toList=[.tmp 6]:=rfl
attribute [go_sem] rs88
theorem Znv {t:Nat} {z:Int} {x:List C} {h h':Go.Ev.H} {v:V} (e:Zgc [.c (.ptr t 0),.c (.int .i64 z),.g x] h=some (v,h')):∃ X to lt lc lf m,h.get t=some (.row 13 [txL X] false)∧X.to=.map to∧h.get to=some (.map (J5 lt))∧h.get X.ch=some (.map (J5 lc))∧h.get X.fr=some (.map (J5 lf))∧h.get X.rv=some (.row 1 [[.map m]] false)∧h.get m=some (.map []) ∧
  X.op=true∧0≤z∧(match Oi z lt with|none=>decide ((lt.length:Int)<X.cr)|some []=>true|some (_ :: _)=>false)=true∧x.length=256∧x.all C.flat=true∧Gc lt=true∧Gc lc=true∧Gc lf=true ∧
  Nat.beq to X.ch=false∧Nat.beq to X.fr=false∧Nat.beq X.ch X.fr=false∧Nat.beq to m=false∧Nat.beq X.ch m=false∧Nat.beq X.fr m=false∧Nat.beq to t=false∧Nat.beq X.ch t=false∧Nat.beq X.fr t=false∧Nat.beq to X.rv=false∧Nat.beq X.ch X.rv=false∧Nat.beq X.fr X.rv=false ∧
  v=.w (.c (.int .i64 0))∧h'=((h.put to (.map (J5 (J2 z [] lt)))).put X.ch (.map (J5 (J2 z x lc)))).put X.fr (.map (J5 (Zh0 z lf))):=by
 unfold Zgc at e
 obtain⟨X,ht,e⟩:=Zo e
 have ht:=Jj ht
 obtain⟨to,hto,e⟩:=Zo e
 have hto:=Wt hto
 obtain⟨lt,hlt,e⟩:=Zo e
 have hlt:=getM_some hlt
 obtain⟨lc,hlc,e⟩:=Zo e
 have hlc:=getM_some hlc
 obtain⟨lf,hlf,e⟩:=Zo e
 have hlf:=getM_some hlf
 obtain⟨m,hr,e⟩:=Zo e
 have hr:=O7 hr
 obtain⟨b,e⟩:=Zv.1 e
 cases e
 simp only[Bool.and_eq_true,Bool.not_eq_true'] at b
 obtain⟨⟨⟨⟨⟨⟨⟨⟨⟨⟨⟨⟨⟨⟨⟨⟨⟨⟨⟨⟨bo,z0⟩,bm⟩,bc⟩,bx⟩,xf⟩,f1⟩,f2⟩,f3⟩,c1⟩,c2⟩,c3⟩,c4⟩,c5⟩,c6⟩,c7⟩,c8⟩,c9⟩,c10⟩,c11⟩,c12⟩:=b
 exact⟨X,to,lt,lc,lf,m,ht,hto,hlt,hlc,hlf,hr,Jk bm,bo,of_decide_eq_true z0,bc,Nat.eq_of_beq_eq_true bx,xf,f1,f2,f3,c1,c2,c3,c4,c5,c6,c7,c8,c9,c10,c11,c12,rfl,rfl⟩
noncomputable def Zpm (s:Nat) (S:Stt) (z:Int) (x:List C) (h:Go.Ev.H):Option (V × Go.Ev.H):=(getM h S.dt).bind fun _=>(getM h S.gv).bind fun _=>Y9 (C.flat S.bs) (Zgc [.c (.ptr S.tx 0),.c (.int .i64 z),.g x] (h.put s (.row 8 [stL { S with kn:=false }] false)))
noncomputable def Zmy:Kn1:=fun args h=>match args with
 | [.c (.ptr s 0),.c (.int .i64 z),.g x]=>(M3 h s).bind fun S=>(Bi h S.tx).bind fun X=>(Xq h S.gd).bind fun G=>Y9 (X.op&&decide (z<9223372036854775808)&&La G.gr G.sz G.ino G.jr z) (Zpm s S z x h)
 | _=>none
theorem Z5q {x:List C} {z:Int} (h:x.length≤256∧256≤x.length):Yq K 131 (some [(0,.c (.int .i64 z)),(1,.g x)])=some (.g (.int .i64 z :: x)):=by
 have zz:(ti131.zero).cells=.int .i64 0 :: List.replicate 256 (.int .u8 0):=by kernel_rfl
 have bu:∀ ps,Yq K 131 (some ps)=gW (Yb K 131 ps (ti131.zero).cells):=fun ps=>by kernel_rfl
 rw[bu,zz]
 simp only[Yb,fo131_0,fo131_1]
 rw[show ti3.size=1 from rfl,Zqb]
 simp only
 rw[show ti47.size=256 from rfl,Zun ⟨h.1,h.2,by rw[List.length_replicate]; omega,by rw[List.length_replicate]; omega⟩]
 rfl
attribute [go_sem] Z5q
theorem Z3k {b:Nat} {S:Stt} (l2:S.gd<b) (l3:S.tx<b) (l4:S.dt<b) (l5:S.gv<b) (fb:C.flat S.bs=true) (k:Bool):Zvx b (.row 8 [stL { S with kn:=k }] false):=by
 refine Zmd fun τ hτ=>?_
 show [[C.ptr (τ S.gd) 0,.ptr (τ S.tx) 0,.pnil,.map (τ S.dt),.map (τ S.gv),S.bs.ren τ,.bool k,.bool false]]=_
 rw[hτ _ l2,hτ _ l3,hτ _ l4,hτ _ l5,C.Jy fb]
 rfl
section
variable (Hh:Hearts K Tryz.prog)
include Hh
set_option maxHeartbeats 4000000 in
theorem Zbz {args:List W} {h h':Go.Ev.H} {v:V} (e:Zmy args h=some (v,h')):Ze K Tryz.prog 88 args h v h':=by
 unfold Zmy at e
 split at e
 ·rename_i s z x
  obtain⟨S,hs,e⟩:=Zo e
  have hs:=Ob hs
  obtain⟨X,ht,e⟩:=Zo e
  have ht:=Jj ht
  obtain⟨G,hg,e⟩:=Zo e
  obtain⟨hg,fb⟩:=Bq hg
  obtain⟨b,e⟩:=Zv.1 e
  simp only[Bool.and_eq_true,decide_eq_true_eq] at b
  obtain⟨⟨bo,z1⟩,bou⟩:=b
  refine Ze.tidy ⟨Tryz.f88,Tryz.func88,by kernel_rfl,by decide⟩ fun tidy=>?_
  unfold Zpm at e
  obtain⟨ldt,hdt,e⟩:=Zo e
  have hdt:=getM_some hdt
  obtain⟨lgv,hgv,e⟩:=Zo e
  have hgv:=getM_some hgv
  obtain⟨fbs,e⟩:=Zv.1 e
  have l1:=tidy _ _ hs
  have k2:=tidy _ _ hg
  have k3:=tidy _ _ ht
  have k4:=tidy _ _ hdt
  have k5:=tidy _ _ hgv
  have hput:∀ m,m≠s→(h.put s (.row 8 [stL { S with kn:=false }] false)).get m=h.get m:=fun m hm=>Zp hm
  have nt:S.tx≠s:=fun e1=>by rw[e1,hs] at ht; cases ht
  obtain⟨X',to,lt,lc,lf,m,ht',hto,hlt,hlc,hlf,hr,hm,bo',z0,bc,xl,xf,f1,f2,f3,c1,c2,c3,c4,c5,c6,c7,c8,c9,c10,c11,c12,rfl,rfl⟩:=Znv e
  rw[hput _ nt] at ht'
  have n0:to≠s:=fun e1=>by rw[e1,Z9] at hlt; cases hlt
  have nc:X'.ch≠s:=fun e1=>by rw[e1,Z9] at hlc; cases hlc
  have nf:X'.fr≠s:=fun e1=>by rw[e1,Z9] at hlf; cases hlf
  have nr:X'.rv≠s:=fun e1=>by rw[e1,Z9] at hr; cases hr
  have nm:m≠s:=fun e1=>by rw[e1,Z9] at hm; cases hm
  rw[hput _ n0] at hlt
  rw[hput _ nc] at hlc
  rw[hput _ nf] at hlf
  rw[hput _ nr] at hr
  rw[hput _ nm] at hm
  have k6:=tidy _ _ hlt
  have k7:=tidy _ _ hlc
  have k8:=tidy _ _ hlf
  have k9:=tidy _ _ hr
  have k10:=tidy _ _ hm
  have n1:=Uw c1
  have n2:=Uw c2
  have n3:=Uw c3
  have n4:=Uw c4
  have n5:=Uw c5
  have n6:=Uw c6
  have n7:=Uw c7
  have n8:=Uw c8
  have n9:=Uw c9
  have n10:=Uw c10
  have n11:=Uw c11
  have n12:=Uw c12
  have md3:True:=trivial
  have z0d:decide (0≤z)=true:=decide_eq_true z0
  obtain⟨v,h',c,rfl,hk⟩:∃ v h',Ze K Tryz.prog 88 [.c (.ptr s 0),.c (.int .i64 z),.g x] h v h'∧v=.w (.c (.int .i64 0))∧∀ j,j<h.next→h'.get j=((((h.put s (.row 8 [stL { S with kn:=false }] false)).put to (.map (J5 (J2 z [] lt)))).put X'.ch (.map (J5 (J2 z x lc)))).put X'.fr (.map (J5 (Zh0 z lf)))).get j:=by
   rcases hl:Oi z lt with _|y
   ·
    rw[hl] at bc
    have bc:decide ((lt.length:Int)<X'.cr)=true:=bc
    refine Ze.Z8 fits Hh (by kernel_rfl) (by kernel_rfl) (by kernel_rfl) (show Tryz.f88.body=some _ from rfl) rfl ?_
    repeat (first|apply Goes.seq|apply Goes.block|apply Goes.loop|apply Goes.skip|apply Goes.exit|apply Goes.ret|((first|apply Goes.Zr|apply Goes.ops2 fits Hh (Zh (Zh Zc (fun _ _ _ _=>Rh Hh)) (fun _ _ _ _=>Zcy Hh))); · simp (maxSteps:=9^6) +decide (disch:=first|omega|(simp only[lens]<;>omega)|decide) only [go_sem,Za,simprocAttr,hs,ht',hg,gdL,fb,bou,bo',md3,z0d,hto,hlt,hlc,hlf,hr,hm,hl,bc,xl,xf,f1,f2,f3,c1,c2,c3,c4,c5,c6,c7,c8,c9,c10,c11,c12,read1]<;>rfl)|(apply Goes.drawn2 fits Hh (Zh (Zh Zc (fun _ _ _ _=>Rh Hh)) (fun _ _ _ _=>Zcy Hh)) (by kernel_rfl); · simp (maxSteps:=9^6) +decide (disch:=first|omega|(simp only[lens]<;>omega)|decide) only [go_sem,Za,simprocAttr,Js,Y2,Jd,Jo,Yv,Jp,Jf,Ye,Ja,Jr,Ux,Jg,Ya,Ym,Yh,Yg,Je,Yt,Y0,Yd,Yu,Jb,Oy,U8,Oj,Ee,Ep,Ue,Ug,Jn,Om,Uj,Ur,Jq,Y1,Uo,looks,O5,Op.operands,Call.operands,kd,Ud,List.filterMap_cons,List.filterMap_nil,List.append_nil,List.nil_append,List.cons_append,Ji,stable,Jl,J4,Jt,waits,Yr,List.all_cons,List.all_nil,List.any_cons,List.any_nil,Region.binds,Bool.or_true,Bool.true_or,Bool.and_true,Bool.true_and,Bool.or_false,Bool.false_or,Bool.and_self,Bool.or_self,Jc,Nat.le_refl,Nat.le_add_right,List.map_cons,Array.toList_append,hs,ht',hg,gdL,fb,bou,bo',md3,z0d,hto,hlt,hlc,hlf,hr,hm,hl,bc,xl,xf,f1,f2,f3,c1,c2,c3,c4,c5,c6,c7,c8,c9,c10,c11,c12,read1]<;>rfl))
    exact⟨_,_,(by simp (maxSteps:=9^6) +decide (disch:=first|omega|(simp only[lens]<;>omega)|decide) only [go_sem,Za,simprocAttr]<;>rfl),rfl,fun j hj=>by (first|(simp (discharger:=omega) only [H.get_put,H.Zi,H.Zm,H.Zd,H.Zg,H.Zj,if_neg]; done)|(simp only[H.get_put,H.Zi,H.Zm,H.Zd,H.Zg,H.Zj]; (repeat' split)<;>first|rfl|(exfalso; omega)|omega))⟩
   ·
    rw[hl] at bc
    rcases y with _|⟨y0,y⟩
    ·
     refine Ze.Z8 fits Hh (by kernel_rfl) (by kernel_rfl) (by kernel_rfl) (show Tryz.f88.body=some _ from rfl) rfl ?_
     repeat (first|apply Goes.seq|apply Goes.block|apply Goes.loop|apply Goes.skip|apply Goes.exit|apply Goes.ret|((first|apply Goes.Zr|apply Goes.ops2 fits Hh (Zh (Zh Zc (fun _ _ _ _=>Rh Hh)) (fun _ _ _ _=>Zcy Hh))); · simp (maxSteps:=9^6) +decide (disch:=first|omega|(simp only[lens]<;>omega)|decide) only [go_sem,Za,simprocAttr,hs,ht',hg,gdL,fb,bou,bo',md3,z0d,hto,hlt,hlc,hlf,hr,hm,hl,bc,xl,xf,f1,f2,f3,c1,c2,c3,c4,c5,c6,c7,c8,c9,c10,c11,c12,read1]<;>rfl)|(apply Goes.drawn2 fits Hh (Zh (Zh Zc (fun _ _ _ _=>Rh Hh)) (fun _ _ _ _=>Zcy Hh)) (by kernel_rfl); · simp (maxSteps:=9^6) +decide (disch:=first|omega|(simp only[lens]<;>omega)|decide) only [go_sem,Za,simprocAttr,Js,Y2,Jd,Jo,Yv,Jp,Jf,Ye,Ja,Jr,Ux,Jg,Ya,Ym,Yh,Yg,Je,Yt,Y0,Yd,Yu,Jb,Oy,U8,Oj,Ee,Ep,Ue,Ug,Jn,Om,Uj,Ur,Jq,Y1,Uo,looks,O5,Op.operands,Call.operands,kd,Ud,List.filterMap_cons,List.filterMap_nil,List.append_nil,List.nil_append,List.cons_append,Ji,stable,Jl,J4,Jt,waits,Yr,List.all_cons,List.all_nil,List.any_cons,List.any_nil,Region.binds,Bool.or_true,Bool.true_or,Bool.and_true,Bool.true_and,Bool.or_false,Bool.false_or,Bool.and_self,Bool.or_self,Jc,Nat.le_refl,Nat.le_add_right,List.map_cons,Array.toList_append,hs,ht',hg,gdL,fb,bou,bo',md3,z0d,hto,hlt,hlc,hlf,hr,hm,hl,bc,xl,xf,f1,f2,f3,c1,c2,c3,c4,c5,c6,c7,c8,c9,c10,c11,c12,read1]<;>rfl))
     exact⟨_,_,(by simp (maxSteps:=9^6) +decide (disch:=first|omega|(simp only[lens]<;>omega)|decide) only [go_sem,Za,simprocAttr]<;>rfl),rfl,fun j hj=>by (first|(simp (discharger:=omega) only [H.get_put,H.Zi,H.Zm,H.Zd,H.Zg,H.Zj,if_neg]; done)|(simp only[H.get_put,H.Zi,H.Zm,H.Zd,H.Zg,H.Zj]; (repeat' split)<;>first|rfl|(exfalso; omega)|omega))⟩
    ·cases bc
  exact c.settle (((((Np.refl tidy).put l1 (Z3k k2 k3 k4 k5 fbs false)).put k6 (M7 (Bv rfl f1))).put k7 (M7 (Bv xf f2))).put k8 (M7 (Zhr f3))) (Ze9.flat rfl) hk
 ·cases e
end
end Go.Proofs.YtngejdlimkgjfaaGreatDoor
