/- A store at rest: seen, Get. -/
import Derived.Test.YtdmendgkbikkaaaGreatDoorBeg
set_option linter.unusedSimpArgs false
set_option linter.unusedVariables false
set_option linter.unusedSectionVars false
set_option maxRecDepth 100000
set_option maxHeartbeats 4000000
namespace Go.Proofs.YtdmendgkbikkaaaGreatDoor
open Go.Ev
theorem rs63:Tryz.f63.results.toList=[.cell 4 73,.tmp 5]:=rfl
theorem rs23:Tryz.f23.results.toList=[.cell 4 73,.tmp 5]:=rfl
attribute [go_sem] rs63 rs23
theorem Zbb {c:Nat} {z:Int} {h h':Go.Ev.H} {v:V} (e:Tc [.c (.ptr c 0),.c (.int .i64 z)] h=some (v,h')):∃ X D l,h.get c=some (.row 3 [ckL X] false)∧h.get X.d=some (.row 6 [dkL D] false)∧0<D.n∧D.n≤2048∧0≤z∧z<(D.n:Int)∧h.get X.m=some (.map (J5 l)) ∧
    ((∃ y,Yx z l=some y∧y.length=257∧y.all C.flat=true∧v=.tup [.g (y.take 256),.c (.int .i64 0)]∧h'=h) ∨
     (Yx z l=none∧Gg l=true∧∃ x L ro,h.get D.q=some (.row 256 L ro)∧L[z.toNat]? = some x∧x.length=256∧x.all C.flat=true∧v=.tup [.g x,.c (.int .i64 0)]∧h'=h.put X.m (.map (J5 (Gy z (x++[.bool false]) l))))):=by
  unfold Tc at e
  obtain⟨X,hc,e⟩:=Zh e
  have hc:=Ma hc
  obtain⟨D,hd,e⟩:=Zh e
  obtain⟨hd,n0,n1⟩:=U0 hd
  obtain⟨b,e⟩:=Zr.1 e
  simp only[Bool.and_eq_true,decide_eq_true_eq] at b
  obtain⟨z0,z1⟩:=b
  obtain⟨l,hm,e⟩:=Zh e
  have hm:=getM_some hm
  refine⟨X,D,l,hc,hd,n0,n1,z0,z1,hm,?_⟩
  split at e
  · rename_i y hl
    obtain⟨b,e⟩:=Zr.1 e
    rw[Bool.and_eq_true] at b
    cases e
    exact .inl ⟨y,hl,Nat.eq_of_beq_eq_true b.1,b.2,rfl,rfl⟩
  · rename_i hl
    obtain⟨fl,e⟩:=Zr.1 e
    obtain⟨x,hx,e⟩:=Zh e
    obtain⟨L,ro,hq,hL,xl,xf⟩:=Zbz hx
    cases e
    exact .inr ⟨hl,fl,x,L,ro,hq,hL,xl,xf,rfl,rfl⟩
noncomputable def Mi:Kn1:=fun args h=>match args with
  | [.c (.ptr s 0),.c (.int .i64 z)]=>(Gi h s).bind fun S=>(getM h S.dt).bind fun ld=>match Yx z ld with
    | some y=>Yp (Nat.beq y.length 257&&y.all C.flat) (some (.tup [.g (y.drop 1),.c (.int .i64 0)],h))
    | none=>(Uh h S.tx).bind fun X=>(getM h X.ch).bind fun lc=>match Yx z lc with
      | some y=>Yp (Nat.beq y.length 256&&y.all C.flat) (some (.tup [.g y,.c (.int .i64 0)],h))
      | none=>(Ea h S.gd).bind fun G=>Yp (Zfz h G.li) (Tc [.c (.ptr G.ca 0),.c (.int .i64 z)] h)
  | _=>none
noncomputable def Zda:Kn1:=fun args h=>match args with
  | [.c (.ptr s 0),.c (.int .i64 z)]=>(Gi h s).bind fun S=>(Ea h S.gd).bind fun G=>Yp (decide (z<9223372036854775808)) (bif Og G.gr G.sz G.ino G.jr z then Mi [.c (.ptr s 0),.c (.int .i64 z)] h else some (.tup [.g zB,.c (.int .i64 2)],h))
  | _=>none
attribute [go_sem] Mi Zda
theorem Zbf {s:Nat} {z:Int} {h h':Go.Ev.H} {v:V} (e:Mi [.c (.ptr s 0),.c (.int .i64 z)] h=some (v,h')):∃ S ld,h.get s=some (.row 8 [stL S] false)∧h.get S.dt=some (.map (J5 ld)) ∧
    ((∃ y,Yx z ld=some y∧y.length=257∧y.all C.flat=true∧v=.tup [.g (y.drop 1),.c (.int .i64 0)]∧h'=h) ∨
     (Yx z ld=none∧∃ X lc,h.get S.tx=some (.row 13 [txL X] false)∧h.get X.ch=some (.map (J5 lc)) ∧
      ((∃ y,Yx z lc=some y∧y.length=256∧y.all C.flat=true∧v=.tup [.g y,.c (.int .i64 0)]∧h'=h) ∨
       (Yx z lc=none∧∃ G,h.get S.gd=some (.row 9 [gdL G] false)∧Y2 G.gr G.sz G.ino G.jr=true∧Zfz h G.li=true∧Tc [.c (.ptr G.ca 0),.c (.int .i64 z)] h=some (v,h'))))):=by
  unfold Mi at e
  obtain⟨S,hs,e⟩:=Zh e
  have hs:=Ja hs
  obtain⟨ld,hd,e⟩:=Zh e
  have hd:=getM_some hd
  refine⟨S,ld,hs,hd,?_⟩
  split at e
  · rename_i y hl
    obtain⟨b,e⟩:=Zr.1 e
    rw[Bool.and_eq_true] at b
    cases e
    exact .inl ⟨y,hl,Nat.eq_of_beq_eq_true b.1,b.2,rfl,rfl⟩
  · rename_i hl
    obtain⟨X,ht,e⟩:=Zh e
    have ht:=Ym ht
    obtain⟨lc,hc,e⟩:=Zh e
    have hc:=getM_some hc
    refine .inr ⟨hl,X,lc,ht,hc,?_⟩
    split at e
    · rename_i y hl
      obtain⟨b,e⟩:=Zr.1 e
      rw[Bool.and_eq_true] at b
      cases e
      exact .inl ⟨y,hl,Nat.eq_of_beq_eq_true b.1,b.2,rfl,rfl⟩
    · rename_i hl
      obtain⟨G,hg,e⟩:=Zh e
      obtain⟨hg,fb⟩:=Un hg
      obtain⟨b,e⟩:=Zr.1 e
      exact .inr ⟨hl,G,hg,fb,b,e⟩
theorem Zhm {l:List C} (n:Nat) (h:l.all C.flat=true):(l.drop n).all C.flat=true:=List.all_eq_true.2 fun x hx=>List.all_eq_true.1 h x (List.mem_of_mem_drop hx)
theorem Zhn {l:List C} (n:Nat) (h:l.all C.flat=true):(l.take n).all C.flat=true:=List.all_eq_true.2 fun x hx=>List.all_eq_true.1 h x (List.mem_of_mem_take hx)
theorem D9 {l:List C} {z:Int} (h:l.all C.flat=true):V.flat (.tup [.g l,.c (.int .i64 z)])=true:=by
  show (l.all C.flat&&true)=true
  rw[h]; rfl
section
variable (Hh:Hearts K Tryz.prog)
include Hh
set_option maxHeartbeats 2000000 in
theorem Rv {args:List W} {h h':Go.Ev.H} {v:V} (e:Mi args h=some (v,h')):Zg 63 args h v h':=by
  have e0:=e
  unfold Mi at e
  split at e
  · rename_i s z
    clear e
    refine Zv.tidy ⟨Tryz.f63,Tryz.func63,by kernel_rfl,by decide⟩ fun tidy=>?_
    obtain⟨S,ld,hs,hd,⟨y,hl,yl,yf,rfl,rfl⟩|⟨hl,X,lc,ht,hc,⟨y,hl2,yl,yf,rfl,rfl⟩|⟨hl2,G,hg,fb,vl,e⟩⟩⟩:=Zbf e0
    · have l1:=tidy _ _ hs
      have l2:=tidy _ _ hd
      have rr:Zm 257 [y] 1 256=some (y.drop 1):=by
        rw[Zo0 (by omega),List.take_of_length_le (by rw[List.length_drop]; omega)]
      have tl:(y.drop 1).length=256:=by rw[List.length_drop]; omega
      obtain⟨v,h2,c,rfl,hk⟩:∃ v h2,Zg 63 [.c (.ptr s 0),.c (.int .i64 z)] h' v h2∧v=.tup [.g (y.drop 1),.c (.int .i64 0)]∧∀ m,m<h'.next→h2.get m=h'.get m:=by
        refine Jd Hh Tryz.f63 ?_
        have Jf:=Oz @hs @hd @hl @rr
        repeat (first|apply Zp|apply Z6|apply Yb|refine Goes.Zn G8 ?_|refine Zy Hh (EY (EY (EY (EY Za (Zbg Hh)) (Zbd Hh)) (Zbc Hh)) (X6 Hh)) G8 ?_)
        exact⟨_,_,(by have Jf:=Oz @hs @hd @hl @rr; exact Z5),rfl,fun m hm=>by exact F4⟩
      exact c.quiet (D9 (Zhm 1 yf)) hk
    · have l1:=tidy _ _ hs
      have l2:=tidy _ _ hd
      have l3:=tidy _ _ ht
      have l4:=tidy _ _ hc
      obtain⟨v,h2,c,rfl,hk⟩:∃ v h2,Zg 63 [.c (.ptr s 0),.c (.int .i64 z)] h' v h2∧v=.tup [.g y,.c (.int .i64 0)]∧∀ m,m<h'.next→h2.get m=h'.get m:=by
        refine Jd Hh Tryz.f63 ?_
        have Jf:=Qv @hs @hd @hl @ht @hc @hl2 @yf
        repeat (first|apply Zp|apply Z6|apply Yb|refine Goes.Zn G8 ?_|refine Zy Hh (EY (EY (EY (EY Za (Zbg Hh)) (Zbd Hh)) (Zbc Hh)) (X6 Hh)) G8 ?_)
        exact⟨_,_,(by have Jf:=Uc @hs @hd @hl; exact Z5),rfl,fun m hm=>by exact F4⟩
      exact c.quiet (D9 yf) hk
    · obtain⟨k1,k2,k3,k4,k5,k6,ro,hli⟩:=S9 vl
      obtain⟨Y,D,l,hck,hdk,n0,n1,z0,z1,hm,⟨y,hl3,yl,yf,rfl,rfl⟩|⟨hl3,fl,x,L,ro,hq,hL,xl,xf,rfl,rfl⟩⟩:=Zbb e
      · have l1:=tidy _ _ hs
        have l2:=tidy _ _ hd
        have l3:=tidy _ _ ht
        have l4:=tidy _ _ hc
        have l5:=tidy _ _ hg
        have l6:=tidy _ _ hck
        have l7:=tidy _ _ hdk
        have l8:=tidy _ _ hm
        have l9:=tidy _ _ hli
        have tl:(y.take 256).length=256:=by rw[List.length_take]; omega
        obtain⟨v,h2,c,rfl,hk⟩:∃ v h2,Zg 63 [.c (.ptr s 0),.c (.int .i64 z)] h' v h2∧v=.tup [.g (y.take 256),.c (.int .i64 0)]∧∀ m,m<h'.next→h2.get m=h'.get m:=by
          refine Jd Hh Tryz.f63 ?_
          repeat (first|apply Zp|apply Z6|apply Yb|((first|apply Goes.Zn|apply Goes.ops2 fits Hh (EY (EY (EY (EY Za (Zbg Hh)) (Zbd Hh)) (Zbc Hh)) (X6 Hh))); · simp (maxSteps:=9^6) +decide (disch:=first|omega|(simp only[lens]<;>omega)|decide) only [go_sem,Ze,simprocAttr,hs,hd,hl,ht,hc,hl2,hg,gdL,fb,hli,hck,hdk,hm,hl3,yf,zB,read1]<;>rfl))
          exact⟨_,_,Jk,rfl,fun m hm=>by exact F4⟩
        exact c.quiet (D9 (Zhn 256 yf)) hk
      · have l1:=tidy _ _ hs
        have l2:=tidy _ _ hd
        have l3:=tidy _ _ ht
        have l4:=tidy _ _ hc
        have l5:=tidy _ _ hg
        have l6:=tidy _ _ hck
        have l7:=tidy _ _ hdk
        have l8:=tidy _ _ hm
        have l9:=tidy _ _ hli
        have l10:=tidy _ _ hq
        obtain⟨v,h2,c,rfl,hk⟩:∃ v h2,Zg 63 [.c (.ptr s 0),.c (.int .i64 z)] h v h2∧v=.tup [.g x,.c (.int .i64 0)]∧∀ m,m<h.next→h2.get m=(h.put Y.m (.map (J5 (Gy z (x++[.bool false]) l)))).get m:=by
          refine Jd Hh Tryz.f63 ?_
          repeat (first|apply Zp|apply Z6|apply Yb|((first|apply Goes.Zn|apply Goes.ops2 fits Hh (EY (EY (EY (EY Za (Zbg Hh)) (Zbd Hh)) (Zbc Hh)) (X6 Hh))); · simp (maxSteps:=9^6) +decide (disch:=first|omega|(simp only[lens]<;>omega)|decide) only [go_sem,Ze,simprocAttr,hs,hd,hl,ht,hc,hl2,hg,gdL,fb,hli,hck,hdk,hm,hl3,hq,hL,xl,xf,fl,zB,read1]<;>rfl))
          exact⟨_,_,Jk,rfl,fun m hm=>by exact F4⟩
        refine c.settle ((Nu.refl tidy).put l8 (E5 (Gu ?_ fl))) (Zgp.flat (D9 xf)) hk
        rw[List.all_append,xf]; rfl
  · cases e
end
theorem Z1a:∀ {S S':Stt},stL S=stL S'→S=S'
 | ⟨a,b,c,d,e,f⟩,⟨a',b',c',d',e',f'⟩,h=>by
  have h':[C.ptr a 0,.ptr b 0,.pnil,.map c,.map d,e,.bool f,.bool false]=[C.ptr a' 0,.ptr b' 0,.pnil,.map c',.map d',e',.bool f',.bool false]:=h
  cases h'
  rfl
theorem Zz4:∀ {G G':Gd},gdL G=gdL G'→G=G'
 | ⟨a,b,c,d,e,f,g,i,j⟩,⟨a',b',c',d',e',f',g',i',j'⟩,h=>by
  have h':[C.int .i64 (a:Int),.int .i64 (b:Int),.int .i64 (c:Int),.int .i64 (d:Int),.int .u8 e,.ptr f 0,.ptr g 0,.ptr i 0,.ptr j 0]=[C.int .i64 (a':Int),.int .i64 (b':Int),.int .i64 (c':Int),.int .i64 (d':Int),.int .u8 e',.ptr f' 0,.ptr g' 0,.ptr i' 0,.ptr j' 0]:=h
  simp only[List.cons.injEq,C.int.injEq,C.ptr.injEq,and_true,true_and,Int.ofNat_inj] at h'
  obtain⟨rfl,rfl,rfl,rfl,rfl,rfl,rfl,rfl,rfl⟩:=h'
  rfl
section
variable (Hh:Hearts K Tryz.prog)
include Hh
set_option maxHeartbeats 4000000 in
theorem F3 {args:List W} {h h':Go.Ev.H} {v:V} (e:Zda args h=some (v,h')):Zg 23 args h v h':=by
 unfold Zda at e
 split at e
 ·rename_i s z
  obtain⟨S0,hs0,e⟩:=Zh e
  obtain⟨G0,hg0,e⟩:=Zh e
  obtain⟨bz,e⟩:=Zr.1 e
  have z1:=of_decide_eq_true bz
  have hs:=Ja hs0
  obtain⟨hg,fb⟩:=Un hg0
  refine Zv.tidy ⟨Tryz.f23,Tryz.func23,by kernel_rfl,by decide⟩ fun tidy=>?_
  have l1:=tidy _ _ hs
  have l5:=tidy _ _ hg
  rcases hb:Og G0.gr G0.sz G0.ino G0.jr z with _|_
  ·rw[hb] at e
   cases e
   obtain⟨v,h2,c,rfl,hk⟩:∃ v h2,Zg 23 [.c (.ptr s 0),.c (.int .i64 z)] h v h2∧v=.tup [.g zB,.c (.int .i64 2)]∧∀ m,m<h.next→h2.get m=h.get m:=by
    refine Jd Hh Tryz.f23 ?_
    repeat (first|apply Zp|apply Z6|apply Yb|((first|apply Goes.Zn|apply Goes.ops2 fits Hh (EY (EY (EY Za (U3 Hh)) (Lr Hh)) (Rv Hh))); · simp (maxSteps:=9^6) +decide (disch:=first|omega|(simp only[lens]<;>omega)|decide) only [go_sem,Ze,simprocAttr,hs,hg,gdL,fb,hb,zB,read1]<;>rfl))
    exact⟨_,_,(by simp (maxSteps:=9^6) +decide (disch:=first|omega|(simp only[lens]<;>omega)|decide) only [go_sem,Ze,simprocAttr,zB]<;>rfl),rfl,fun m hm=>by exact F4⟩
   exact c.quiet (D9 Z1t) hk
  ·rw[hb] at e
   have e:Mi [.c (.ptr s 0),.c (.int .i64 z)] h=some (v,h'):=e
   obtain⟨S,ld,hs2,hd,q⟩:=Zbf e
   have eS:S0=S:=by
    rw[hs] at hs2
    have e1:stL S0=stL S:=by simpa using hs2
    exact Z1a e1
   subst eS
   have l2:=tidy _ _ hd
   obtain⟨y,hl,yl,yf,rfl,rfl⟩|⟨hl,X,lc,ht,hc,⟨y,hl2,yl,yf,rfl,rfl⟩|⟨hl2,G,hg2,fb2,vl,e⟩⟩:=q
   ·have tl:(y.drop 1).length=256:=by rw[List.length_drop]; omega
    obtain⟨v,h2,c,rfl,hk⟩:∃ v h2,Zg 23 [.c (.ptr s 0),.c (.int .i64 z)] h' v h2∧v=.tup [.g (y.drop 1),.c (.int .i64 0)]∧∀ m,m<h'.next→h2.get m=h'.get m:=by
     refine Jd Hh Tryz.f23 ?_
     repeat (first|apply Zp|apply Z6|apply Yb|((first|apply Goes.Zn|apply Goes.ops2 fits Hh (EY (EY (EY Za (U3 Hh)) (Lr Hh)) (Rv Hh))); · simp (maxSteps:=9^6) +decide (disch:=first|omega|(simp only[lens]<;>omega)|decide) only [go_sem,Ze,simprocAttr,hs,hg,gdL,fb,hb,hd,hl,yl,yf,read1]<;>rfl))
     exact⟨_,_,Jk,rfl,fun m hm=>by exact F4⟩
    exact c.quiet (D9 (Zhm 1 yf)) hk
   ·have l3:=tidy _ _ ht
    have l4:=tidy _ _ hc
    obtain⟨v,h2,c,rfl,hk⟩:∃ v h2,Zg 23 [.c (.ptr s 0),.c (.int .i64 z)] h' v h2∧v=.tup [.g y,.c (.int .i64 0)]∧∀ m,m<h'.next→h2.get m=h'.get m:=by
     refine Jd Hh Tryz.f23 ?_
     repeat (first|apply Zp|apply Z6|apply Yb|((first|apply Goes.Zn|apply Goes.ops2 fits Hh (EY (EY (EY Za (U3 Hh)) (Lr Hh)) (Rv Hh))); · simp (maxSteps:=9^6) +decide (disch:=first|omega|(simp only[lens]<;>omega)|decide) only [go_sem,Ze,simprocAttr,hs,hg,gdL,fb,hb,hd,hl,ht,hc,hl2,yl,yf,read1]<;>rfl))
     exact⟨_,_,Jk,rfl,fun m hm=>by exact F4⟩
    exact c.quiet (D9 yf) hk
   ·have eG:G0=G:=by
     rw[hg] at hg2
     have e1:gdL G0=gdL G:=by simpa using hg2
     exact Zz4 e1
    subst eG
    obtain⟨k1,k2,k3,k4,k5,k6,ro,hli⟩:=S9 vl
    obtain⟨Y,D,l,hck,hdk,n0,n1,z0,z2,hm,⟨y,hl3,yl,yf,rfl,rfl⟩|⟨hl3,fl,x,L,ro,hq,hL,xl,xf,rfl,rfl⟩⟩:=Zbb e
    ·have l3:=tidy _ _ ht
     have l4:=tidy _ _ hc
     have l6:=tidy _ _ hck
     have l7:=tidy _ _ hdk
     have l8:=tidy _ _ hm
     have l9:=tidy _ _ hli
     have l10:=tidy _ _ hg2
     have tl:(y.take 256).length=256:=by rw[List.length_take]; omega
     obtain⟨v,h2,c,rfl,hk⟩:∃ v h2,Zg 23 [.c (.ptr s 0),.c (.int .i64 z)] h' v h2∧v=.tup [.g (y.take 256),.c (.int .i64 0)]∧∀ m,m<h'.next→h2.get m=h'.get m:=by
      refine Jd Hh Tryz.f23 ?_
      repeat (first|apply Zp|apply Z6|apply Yb|((first|apply Goes.Zn|apply Goes.ops2 fits Hh (EY (EY (EY Za (U3 Hh)) (Lr Hh)) (Rv Hh))); · simp (maxSteps:=9^6) +decide (disch:=first|omega|(simp only[lens]<;>omega)|decide) only [go_sem,Ze,simprocAttr,hs,hg2,gdL,fb,fb2,hb,hd,hl,ht,hc,hl2,hli,hck,hdk,hm,hl3,yl,yf,zB,read1]<;>rfl))
      exact⟨_,_,Jk,rfl,fun m hm=>by exact F4⟩
     exact c.quiet (D9 (Zhn 256 yf)) hk
    ·have l3:=tidy _ _ ht
     have l4:=tidy _ _ hc
     have l6:=tidy _ _ hck
     have l7:=tidy _ _ hdk
     have l8:=tidy _ _ hm
     have l9:=tidy _ _ hli
     have l10:=tidy _ _ hg2
     have l11:=tidy _ _ hq
     obtain⟨v,h2,c,rfl,hk⟩:∃ v h2,Zg 23 [.c (.ptr s 0),.c (.int .i64 z)] h v h2∧v=.tup [.g x,.c (.int .i64 0)]∧∀ m,m<h.next→h2.get m=(h.put Y.m (.map (J5 (Gy z (x++[.bool false]) l)))).get m:=by
      refine Jd Hh Tryz.f23 ?_
      repeat (first|apply Zp|apply Z6|apply Yb|((first|apply Goes.Zn|apply Goes.ops2 fits Hh (EY (EY (EY Za (U3 Hh)) (Lr Hh)) (Rv Hh))); · simp (maxSteps:=9^6) +decide (disch:=first|omega|(simp only[lens]<;>omega)|decide) only [go_sem,Ze,simprocAttr,hs,hg2,gdL,fb,fb2,hb,hd,hl,ht,hc,hl2,hli,hck,hdk,hm,hl3,hq,hL,xl,xf,fl,zB,read1]<;>rfl))
      exact⟨_,_,Jk,rfl,fun m hm=>by exact F4⟩
     refine c.settle ((Nu.refl tidy).put l8 (E5 (Gu ?_ fl))) (Zgp.flat (D9 xf)) hk
     rw[List.all_append,xf]; rfl
 ·cases e
end
theorem rs80:Tryz.f80.results.toList=[.tmp 6]:=rfl
attribute [go_sem] rs80
theorem Znj {t:Nat} {z:Int} {x:List C} {h h':Go.Ev.H} {v:V} (e:Zgl [.c (.ptr t 0),.c (.int .i64 z),.g x] h=some (v,h')):∃ X to lt lc lf m,h.get t=some (.row 13 [txL X] false)∧X.to=.map to∧h.get to=some (.map (J5 lt))∧h.get X.ch=some (.map (J5 lc))∧h.get X.fr=some (.map (J5 lf))∧h.get X.rv=some (.row 1 [[.map m]] false)∧h.get m=some (.map []) ∧
  X.op=true∧0≤z∧(match Yx z lt with|none=>decide ((lt.length:Int)<X.cr)|some []=>true|some (_ :: _)=>false)=true∧x.length=256∧x.all C.flat=true∧Gg lt=true∧Gg lc=true∧Gg lf=true ∧
  Nat.beq to X.ch=false∧Nat.beq to X.fr=false∧Nat.beq X.ch X.fr=false∧Nat.beq to m=false∧Nat.beq X.ch m=false∧Nat.beq X.fr m=false∧Nat.beq to t=false∧Nat.beq X.ch t=false∧Nat.beq X.fr t=false∧Nat.beq to X.rv=false∧Nat.beq X.ch X.rv=false∧Nat.beq X.fr X.rv=false ∧
  v=.w (.c (.int .i64 0))∧h'=((h.put to (.map (J5 (Gy z [] lt)))).put X.ch (.map (J5 (Gy z x lc)))).put X.fr (.map (J5 (Zec z lf))):=by
 unfold Zgl at e
 obtain⟨X,ht,e⟩:=Zh e
 have ht:=Ym ht
 obtain⟨to,hto,e⟩:=Zh e
 have hto:=Zm0 hto
 obtain⟨lt,hlt,e⟩:=Zh e
 have hlt:=getM_some hlt
 obtain⟨lc,hlc,e⟩:=Zh e
 have hlc:=getM_some hlc
 obtain⟨lf,hlf,e⟩:=Zh e
 have hlf:=getM_some hlf
 obtain⟨m,hr,e⟩:=Zh e
 have hr:=U8 hr
 obtain⟨b,e⟩:=Zr.1 e
 cases e
 simp only[Bool.and_eq_true,Bool.not_eq_true'] at b
 obtain⟨⟨⟨⟨⟨⟨⟨⟨⟨⟨⟨⟨⟨⟨⟨⟨⟨⟨⟨⟨bo,z0⟩,bm⟩,bc⟩,bx⟩,xf⟩,f1⟩,f2⟩,f3⟩,c1⟩,c2⟩,c3⟩,c4⟩,c5⟩,c6⟩,c7⟩,c8⟩,c9⟩,c10⟩,c11⟩,c12⟩:=b
 exact⟨X,to,lt,lc,lf,m,ht,hto,hlt,hlc,hlf,hr,Yz bm,bo,of_decide_eq_true z0,bc,Nat.eq_of_beq_eq_true bx,xf,f1,f2,f3,c1,c2,c3,c4,c5,c6,c7,c8,c9,c10,c11,c12,rfl,rfl⟩
noncomputable def Zpx (s:Nat) (S:Stt) (z:Int) (x:List C) (h:Go.Ev.H):Option (V × Go.Ev.H):=(getM h S.dt).bind fun _=>(getM h S.gv).bind fun _=>Yp (C.flat S.bs) (Zgl [.c (.ptr S.tx 0),.c (.int .i64 z),.g x] (h.put s (.row 8 [stL { S with kn:=false }] false)))
noncomputable def Znf:Kn1:=fun args h=>match args with
 | [.c (.ptr s 0),.c (.int .i64 z),.g x]=>(Gi h s).bind fun S=>(Uh h S.tx).bind fun X=>(Ea h S.gd).bind fun G=>Yp (X.op&&decide (z<9223372036854775808)&&Og G.gr G.sz G.ino G.jr z) (Zpx s S z x h)
 | _=>none
theorem Z4k {x:List C} {z:Int} (h:x.length≤256∧256≤x.length):Yd K 115 (some [(0,.c (.int .i64 z)),(1,.g x)])=some (.g (.int .i64 z :: x)):=by
 have zz:(ti115.zero).cells=.int .i64 0 :: List.replicate 256 (.int .u8 0):=by kernel_rfl
 have bu:∀ ps,Yd K 115 (some ps)=gW (Z4 K 115 ps (ti115.zero).cells):=fun ps=>by kernel_rfl
 rw[bu,zz]
 simp only[Z4,fo115_0,fo115_1]
 rw[show ti3.size=1 from rfl,Zn6]
 simp only
 rw[show ti73.size=256 from rfl,Zsm ⟨h.1,h.2,by rw[List.length_replicate]; omega,by rw[List.length_replicate]; omega⟩]
 rfl
attribute [go_sem] Z4k
theorem Z3c {b:Nat} {S:Stt} (l2:S.gd<b) (l3:S.tx<b) (l4:S.dt<b) (l5:S.gv<b) (fb:C.flat S.bs=true) (k:Bool):Zrr b (.row 8 [stL { S with kn:=k }] false):=by
 refine Zq8 fun τ hτ=>?_
 show [[C.ptr (τ S.gd) 0,.ptr (τ S.tx) 0,.pnil,.map (τ S.dt),.map (τ S.gv),S.bs.ren τ,.bool k,.bool false]]=_
 rw[hτ _ l2,hτ _ l3,hτ _ l4,hτ _ l5,C.Jo fb]
 rfl
section
variable (Hh:Hearts K Tryz.prog)
include Hh
set_option maxHeartbeats 4000000 in
theorem Zbe {args:List W} {h h':Go.Ev.H} {v:V} (e:Znf args h=some (v,h')):Zg 80 args h v h':=by
 unfold Znf at e
 split at e
 ·rename_i s z x
  obtain⟨S,hs,e⟩:=Zh e
  have hs:=Ja hs
  obtain⟨X,ht,e⟩:=Zh e
  have ht:=Ym ht
  obtain⟨G,hg,e⟩:=Zh e
  obtain⟨hg,fb⟩:=Un hg
  obtain⟨b,e⟩:=Zr.1 e
  simp only[Bool.and_eq_true,decide_eq_true_eq] at b
  obtain⟨⟨bo,z1⟩,bou⟩:=b
  refine Zv.tidy ⟨Tryz.f80,Tryz.func80,by kernel_rfl,by decide⟩ fun tidy=>?_
  unfold Zpx at e
  obtain⟨ldt,hdt,e⟩:=Zh e
  have hdt:=getM_some hdt
  obtain⟨lgv,hgv,e⟩:=Zh e
  have hgv:=getM_some hgv
  obtain⟨fbs,e⟩:=Zr.1 e
  have l1:=tidy _ _ hs
  have k2:=tidy _ _ hg
  have k3:=tidy _ _ ht
  have k4:=tidy _ _ hdt
  have k5:=tidy _ _ hgv
  have hput:∀ m,m≠s→(h.put s (.row 8 [stL { S with kn:=false }] false)).get m=h.get m:=fun m hm=>Zo hm
  have nt:S.tx≠s:=fun e1=>by rw[e1,hs] at ht; cases ht
  obtain⟨X',to,lt,lc,lf,m,ht',hto,hlt,hlc,hlf,hr,hm,bo',z0,bc,xl,xf,f1,f2,f3,c1,c2,c3,c4,c5,c6,c7,c8,c9,c10,c11,c12,rfl,rfl⟩:=Znj e
  rw[hput _ nt] at ht'
  have n0:to≠s:=fun e1=>by rw[e1,Yg] at hlt; cases hlt
  have nc:X'.ch≠s:=fun e1=>by rw[e1,Yg] at hlc; cases hlc
  have nf:X'.fr≠s:=fun e1=>by rw[e1,Yg] at hlf; cases hlf
  have nr:X'.rv≠s:=fun e1=>by rw[e1,Yg] at hr; cases hr
  have nm:m≠s:=fun e1=>by rw[e1,Yg] at hm; cases hm
  rw[hput _ n0] at hlt
  rw[hput _ nc] at hlc
  rw[hput _ nf] at hlf
  rw[hput _ nr] at hr
  rw[hput _ nm] at hm
  have k6:=tidy _ _ hlt
  have k7:=tidy _ _ hlc
  have k8:=tidy _ _ hlf
  have k9:=tidy _ _ hr
  have k10:=tidy _ _ hm
  have n1:=J4 c1
  have n2:=J4 c2
  have n3:=J4 c3
  have n4:=J4 c4
  have n5:=J4 c5
  have n6:=J4 c6
  have n7:=J4 c7
  have n8:=J4 c8
  have n9:=J4 c9
  have n10:=J4 c10
  have n11:=J4 c11
  have n12:=J4 c12
  have md3:True:=trivial
  have z0d:decide (0≤z)=true:=decide_eq_true z0
  obtain⟨v,h',c,rfl,hk⟩:∃ v h',Zg 80 [.c (.ptr s 0),.c (.int .i64 z),.g x] h v h'∧v=.w (.c (.int .i64 0))∧∀ j,j<h.next→h'.get j=((((h.put s (.row 8 [stL { S with kn:=false }] false)).put to (.map (J5 (Gy z [] lt)))).put X'.ch (.map (J5 (Gy z x lc)))).put X'.fr (.map (J5 (Zec z lf)))).get j:=by
   rcases hl:Yx z lt with _|y
   ·
    rw[hl] at bc
    have bc:decide ((lt.length:Int)<X'.cr)=true:=bc
    refine Jd Hh Tryz.f80 ?_
    repeat (first|apply Zp|apply Z6|apply Yb|((first|apply Goes.Zn|apply Goes.ops2 fits Hh (EY (EY Za (Nk Hh)) (Zbh Hh))); · simp (maxSteps:=9^6) +decide (disch:=first|omega|(simp only[lens]<;>omega)|decide) only [go_sem,Ze,simprocAttr,hs,ht',hg,gdL,fb,bou,bo',md3,z0d,hto,hlt,hlc,hlf,hr,hm,hl,bc,xl,xf,f1,f2,f3,c1,c2,c3,c4,c5,c6,c7,c8,c9,c10,c11,c12,read1]<;>rfl)|(apply Goes.drawn2 fits Hh (EY (EY Za (Nk Hh)) (Zbh Hh)) (by kernel_rfl); · simp (maxSteps:=9^6) +decide (disch:=first|omega|(simp only[lens]<;>omega)|decide) only [go_sem,Ze,simprocAttr,drG,hs,ht',hg,gdL,fb,bou,bo',md3,z0d,hto,hlt,hlc,hlf,hr,hm,hl,bc,xl,xf,f1,f2,f3,c1,c2,c3,c4,c5,c6,c7,c8,c9,c10,c11,c12,read1]<;>rfl))
    exact⟨_,_,Jk,rfl,fun j hj=>by exact F4⟩
   ·
    rw[hl] at bc
    rcases y with _|⟨y0,y⟩
    ·
     refine Jd Hh Tryz.f80 ?_
     repeat (first|apply Zp|apply Z6|apply Yb|((first|apply Goes.Zn|apply Goes.ops2 fits Hh (EY (EY Za (Nk Hh)) (Zbh Hh))); · simp (maxSteps:=9^6) +decide (disch:=first|omega|(simp only[lens]<;>omega)|decide) only [go_sem,Ze,simprocAttr,hs,ht',hg,gdL,fb,bou,bo',md3,z0d,hto,hlt,hlc,hlf,hr,hm,hl,bc,xl,xf,f1,f2,f3,c1,c2,c3,c4,c5,c6,c7,c8,c9,c10,c11,c12,read1]<;>rfl)|(apply Goes.drawn2 fits Hh (EY (EY Za (Nk Hh)) (Zbh Hh)) (by kernel_rfl); · simp (maxSteps:=9^6) +decide (disch:=first|omega|(simp only[lens]<;>omega)|decide) only [go_sem,Ze,simprocAttr,drG,hs,ht',hg,gdL,fb,bou,bo',md3,z0d,hto,hlt,hlc,hlf,hr,hm,hl,bc,xl,xf,f1,f2,f3,c1,c2,c3,c4,c5,c6,c7,c8,c9,c10,c11,c12,read1]<;>rfl))
     exact⟨_,_,Jk,rfl,fun j hj=>by exact F4⟩
    ·cases bc
  exact c.settle (((((Nu.refl tidy).put l1 (Z3c k2 k3 k4 k5 fbs false)).put k6 (E5 (Gu rfl f1))).put k7 (E5 (Gu xf f2))).put k8 (E5 (Zes f3))) (Zgp.flat rfl) hk
 ·cases e
end
end Go.Proofs.YtdmendgkbikkaaaGreatDoor
