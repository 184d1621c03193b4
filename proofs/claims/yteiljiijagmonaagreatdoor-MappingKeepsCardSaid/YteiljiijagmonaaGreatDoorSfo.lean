/- A store at rest: seen, Get. -/
import Derived.Test.YteiljiijagmonaaGreatDoorBeg
set_option maxRecDepth 100000
set_option maxHeartbeats 4000000
set_option linter.unusedSimpArgs false
set_option linter.unusedVariables false
set_option linter.unusedSectionVars false
namespace Go.Proofs.YteiljiijagmonaaGreatDoor
open Go.Ev
noncomputable section
theorem rs59:Tryz.f59.results.toList=[.cell 4 66,.tmp 5]:=rfl
theorem rs19:Tryz.f19.results.toList=[.cell 4 66,.tmp 5]:=rfl
attribute [go_sem] rs59 rs19
theorem Zdr {c:Nat} {z:Int} {h h':Hq} {v:V} (e:Xw [.c (.ptr c 0),.c (.int .i64 z)] h=some (v,h')):∃ X D l,h.get c=some (.row 3 [ckL X] false)/\h.get X.d=some (.row 6 [dkL D] false)/\0<D.n/\D.n<=2048/\0<=z/\z<(D.n:Int)/\h.get X.m=some (.map (Y5 l)) /\
    ((∃ y,Ym z l=some y/\y.length=257/\y.all C.flat=true/\v=.tup [.g (y.take 256),.c (.int .i64 0)]/\h'=h) \/
     (Ym z l=none/\Ou l=true/\∃ x L ro,h.get D.q=some (.row 256 L ro)/\L[z.toNat]? = some x/\x.length=256/\x.all C.flat=true/\v=.tup [.g x,.c (.int .i64 0)]/\h'=h.put X.m (.map (Y5 (Ol z (x++[.bool false]) l))))):=by
  unfold Xw at e
  obtain⟨X,hc,e⟩:=Zj e
  have hc:=Fa hc
  obtain⟨D,hd,e⟩:=Zj e
  obtain⟨hd,n0,n1⟩:=Uy hd
  obtain⟨b,e⟩:=Zq.1 e
  simp only[aQ,decide_eq_true_eq] at b
  obtain⟨z0,z1⟩:=b
  obtain⟨l,hm,e⟩:=Zj e
  have hm:=getM_some hm
  refine⟨X,D,l,hc,hd,n0,n1,z0,z1,hm,?_⟩
  split at e
  · rename_i y hl
    obtain⟨b,e⟩:=Zq.1 e
    rw[aQ] at b
    cases e
    exact .inl ⟨y,hl,bQ b.1,b.2,rfl,rfl⟩
  · rename_i hl
    obtain⟨fl,e⟩:=Zq.1 e
    obtain⟨x,hx,e⟩:=Zj e
    obtain⟨L,ro,hq,hL,xl,xf⟩:=Zed hx
    cases e
    exact .inr ⟨hl,fl,x,L,ro,hq,hL,xl,xf,rfl,rfl⟩
def Rm:Kn1:=fun args h=>match args with
  | [.c (.ptr s 0),.c (.int .i64 z)]=>(Da h s).bind fun S=>(getM h S.dt).bind fun ld=>match Ym z ld with
    | some y=>Yt (Nat.beq y.length 257&&y.all C.flat) (some (.tup [.g (y.drop 1),.c (.int .i64 0)],h))
    | none=>(Uf h S.tx).bind fun X=>(getM h X.ch).bind fun lc=>match Ym z lc with
      | some y=>Yt (Nat.beq y.length 256&&y.all C.flat) (some (.tup [.g y,.c (.int .i64 0)],h))
      | none=>(Mj h S.gd).bind fun G=>Yt (Zfh h G.li) (Xw [.c (.ptr G.ca 0),.c (.int .i64 z)] h)
  | _=>none
def Zfj:Kn1:=fun args h=>match args with
  | [.c (.ptr s 0),.c (.int .i64 z)]=>(Da h s).bind fun S=>(Mj h S.gd).bind fun G=>Yt (decide (z<9223372036854775808)) (bif Uu G.gr G.sz G.ino G.jr z then Rm [.c (.ptr s 0),.c (.int .i64 z)] h else some (.tup [.g zB,.c (.int .i64 2)],h))
  | _=>none
attribute [go_sem] Rm Zfj
theorem Zdu {s:Nat} {z:Int} {h h':Hq} {v:V} (e:Rm [.c (.ptr s 0),.c (.int .i64 z)] h=some (v,h')):∃ S ld,h.get s=some (.row 8 [stL S] false)/\h.get S.dt=some (.map (Y5 ld)) /\
    ((∃ y,Ym z ld=some y/\y.length=257/\y.all C.flat=true/\v=.tup [.g (y.drop 1),.c (.int .i64 0)]/\h'=h) \/
     (Ym z ld=none/\∃ X lc,h.get S.tx=some (.row 13 [txL X] false)/\h.get X.ch=some (.map (Y5 lc)) /\
      ((∃ y,Ym z lc=some y/\y.length=256/\y.all C.flat=true/\v=.tup [.g y,.c (.int .i64 0)]/\h'=h) \/
       (Ym z lc=none/\∃ G,h.get S.gd=some (.row 9 [gdL G] false)/\Y1 G.gr G.sz G.ino G.jr=true/\Zfh h G.li=true/\Xw [.c (.ptr G.ca 0),.c (.int .i64 z)] h=some (v,h'))))):=by
  unfold Rm at e
  obtain⟨S,hs,e⟩:=Zj e
  have hs:=Y8 hs
  obtain⟨ld,hd,e⟩:=Zj e
  have hd:=getM_some hd
  refine⟨S,ld,hs,hd,?_⟩
  split at e
  · rename_i y hl
    obtain⟨b,e⟩:=Zq.1 e
    rw[aQ] at b
    cases e
    exact .inl ⟨y,hl,bQ b.1,b.2,rfl,rfl⟩
  · rename_i hl
    obtain⟨X,ht,e⟩:=Zj e
    have ht:=Yk ht
    obtain⟨lc,hc,e⟩:=Zj e
    have hc:=getM_some hc
    refine .inr ⟨hl,X,lc,ht,hc,?_⟩
    split at e
    · rename_i y hl
      obtain⟨b,e⟩:=Zq.1 e
      rw[aQ] at b
      cases e
      exact .inl ⟨y,hl,bQ b.1,b.2,rfl,rfl⟩
    · rename_i hl
      obtain⟨G,hg,e⟩:=Zj e
      obtain⟨hg,fb⟩:=Uz hg
      obtain⟨b,e⟩:=Zq.1 e
      exact .inr ⟨hl,G,hg,fb,b,e⟩
theorem Zkg {l:List C} (n:Nat) (h:l.all C.flat=true):(l.drop n).all C.flat=true:=List.all_eq_true.2 fun x hx=>List.all_eq_true.1 h x (List.mem_of_mem_drop hx)
theorem Zkh {l:List C} (n:Nat) (h:l.all C.flat=true):(l.take n).all C.flat=true:=List.all_eq_true.2 fun x hx=>List.all_eq_true.1 h x (List.mem_of_mem_take hx)
theorem F4 {l:List C} {z:Int} (h:l.all C.flat=true):V.flat (.tup [.g l,.c (.int .i64 z)])=true:=by
  show (l.all C.flat&&true)=true
  rw[h]; rfl
section
variable (Hh:Hearts K Tryz.prog)
include Hh
set_option maxHeartbeats 2000000 in
theorem Vq {args:List W} {h h':Hq} {v:V} (e:Rm args h=some (v,h')):Zi 59 args h v h':=by
  have e0:=e
  unfold Rm at e
  split at e
  · rename_i s z
    clear e
    refine Zy.tidy ⟨Tryz.f59,Tryz.func59,kR,by decide⟩ fun tidy=>?_
    obtain⟨S,ld,hs,hd,⟨y,hl,yl,yf,rfl,rfl⟩|⟨hl,X,lc,ht,hc,⟨y,hl2,yl,yf,rfl,rfl⟩|⟨hl2,G,hg,fb,vl,e⟩⟩⟩:=Zdu e0
    · have l1:=tidy _ _ hs
      have l2:=tidy _ _ hd
      have rr:Zk 257 [y] 1 256=some (y.drop 1):=by
        rw[Zr8 oM,List.take_of_length_le (by rw[List.length_drop]; omega)]
      have tl:(y.drop 1).length=256:=by rw[List.length_drop]; omega
      obtain⟨v,h2,c,rfl,hk⟩:∃ v h2,Zi 59 [.c (.ptr s 0),.c (.int .i64 z)] h' v h2/\v=.tup [.g (y.drop 1),.c (.int .i64 0)]/\∀ m,m<h'.next->h2.get m=h'.get m:=by
        refine Y0 Hh Tryz.f59 ?_
        have Jf:=Um @hs @hd @hl @rr
        repeat (first|apply Zu|apply Ye|apply Yc|refine Goes.Zl O3 ?_|refine Zr Hh (EY (EY (EY (EY Za (M5 Hh)) (Mx Hh)) (Zds Hh)) (Za1 Hh)) O3 ?_)
        exact⟨_,_,(by have Jf:=Um @hs @hd @hl @rr; exact Z0),rfl,fun m hm=>by exact Le⟩
      exact c.quiet (F4 (Zkg 1 yf)) hk
    · have l1:=tidy _ _ hs
      have l2:=tidy _ _ hd
      have l3:=tidy _ _ ht
      have l4:=tidy _ _ hc
      obtain⟨v,h2,c,rfl,hk⟩:∃ v h2,Zi 59 [.c (.ptr s 0),.c (.int .i64 z)] h' v h2/\v=.tup [.g y,.c (.int .i64 0)]/\∀ m,m<h'.next->h2.get m=h'.get m:=by
        refine Y0 Hh Tryz.f59 ?_
        have Jf:=El @hs @hd @hl @ht @hc @hl2 @yf
        repeat (first|apply Zu|apply Ye|apply Yc|refine Goes.Zl O3 ?_|refine Zr Hh (EY (EY (EY (EY Za (M5 Hh)) (Mx Hh)) (Zds Hh)) (Za1 Hh)) O3 ?_)
        exact⟨_,_,(by have Jf:=Ju @hs @hd @hl; exact Z0),rfl,fun m hm=>by exact Le⟩
      exact c.quiet (F4 yf) hk
    · obtain⟨k1,k2,k3,k4,k5,k6,ro,hli⟩:=Ri vl
      obtain⟨Y,D,l,hck,hdk,n0,n1,z0,z1,hm,⟨y,hl3,yl,yf,rfl,rfl⟩|⟨hl3,fl,x,L,ro,hq,hL,xl,xf,rfl,rfl⟩⟩:=Zdr e
      · have l1:=tidy _ _ hs
        have l2:=tidy _ _ hd
        have l3:=tidy _ _ ht
        have l4:=tidy _ _ hc
        have l5:=tidy _ _ hg
        have l6:=tidy _ _ hck
        have l7:=tidy _ _ hdk
        have l8:=tidy _ _ hm
        have l9:=tidy _ _ hli
        have tl:(y.take 256).length=256:=by rw[List.length_take]; omega
        obtain⟨v,h2,c,rfl,hk⟩:∃ v h2,Zi 59 [.c (.ptr s 0),.c (.int .i64 z)] h' v h2/\v=.tup [.g (y.take 256),.c (.int .i64 0)]/\∀ m,m<h'.next->h2.get m=h'.get m:=by
          refine Y0 Hh Tryz.f59 ?_
          repeat (first|apply Zu|apply Ye|apply Yc|((first|apply Goes.Zl|apply Goes.ops2 fits Hh (EY (EY (EY (EY Za (M5 Hh)) (Mx Hh)) (Zds Hh)) (Za1 Hh))); · simp (maxSteps:=9^6) +decide (disch:=first|exact dZ|fail) only [go_sem,Zh,simprocAttr,hs,hd,hl,ht,hc,hl2,hg,gdL,fb,hli,hck,hdk,hm,hl3,yf,zB,read1]<;>rfl))
          exact⟨_,_,Y6,rfl,fun m hm=>by exact Le⟩
        exact c.quiet (F4 (Zkh 256 yf)) hk
      · have l1:=tidy _ _ hs
        have l2:=tidy _ _ hd
        have l3:=tidy _ _ ht
        have l4:=tidy _ _ hc
        have l5:=tidy _ _ hg
        have l6:=tidy _ _ hck
        have l7:=tidy _ _ hdk
        have l8:=tidy _ _ hm
        have l9:=tidy _ _ hli
        have l10:=tidy _ _ hq
        obtain⟨v,h2,c,rfl,hk⟩:∃ v h2,Zi 59 [.c (.ptr s 0),.c (.int .i64 z)] h v h2/\v=.tup [.g x,.c (.int .i64 0)]/\∀ m,m<h.next->h2.get m=(h.put Y.m (.map (Y5 (Ol z (x++[.bool false]) l)))).get m:=by
          refine Y0 Hh Tryz.f59 ?_
          repeat (first|apply Zu|apply Ye|apply Yc|((first|apply Goes.Zl|apply Goes.ops2 fits Hh (EY (EY (EY (EY Za (M5 Hh)) (Mx Hh)) (Zds Hh)) (Za1 Hh))); · simp (maxSteps:=9^6) +decide (disch:=first|exact dZ|fail) only [go_sem,Zh,simprocAttr,hs,hd,hl,ht,hc,hl2,hg,gdL,fb,hli,hck,hdk,hm,hl3,hq,hL,xl,xf,fl,zB,read1]<;>rfl))
          exact⟨_,_,Y6,rfl,fun m hm=>by exact Le⟩
        refine c.settle ((Ru.refl tidy).put l8 (D7 (Og ?_ fl))) (Zgd.flat (F4 xf)) hk
        rw[List.all_append,xf]; rfl
  · cases e
end
theorem Z41:∀ {S S':Stt},stL S=stL S'->S=S'
 | ⟨a,b,c,d,e,f⟩,⟨a',b',c',d',e',f'⟩,h=>by
  have h':[C.ptr a 0,.ptr b 0,.pnil,.map c,.map d,e,.bool f,.bool false]=[C.ptr a' 0,.ptr b' 0,.pnil,.map c',.map d',e',.bool f',.bool false]:=h
  cases h'
  rfl
theorem Z3p:∀ {G G':Gd},gdL G=gdL G'->G=G'
 | ⟨a,b,c,d,e,f,g,i,j⟩,⟨a',b',c',d',e',f',g',i',j'⟩,h=>by
  have h':[C.int .i64 (a:Int),.int .i64 (b:Int),.int .i64 (c:Int),.int .i64 (d:Int),.int .u8 e,.ptr f 0,.ptr g 0,.ptr i 0,.ptr j 0]=[C.int .i64 (a':Int),.int .i64 (b':Int),.int .i64 (c':Int),.int .i64 (d':Int),.int .u8 e',.ptr f' 0,.ptr g' 0,.ptr i' 0,.ptr j' 0]:=h
  simp only[List.cons.injEq,C.int.injEq,C.ptr.injEq,and_true,true_and,Int.ofNat_inj] at h'
  obtain⟨rfl,rfl,rfl,rfl,rfl,rfl,rfl,rfl,rfl⟩:=h'
  rfl
section
variable (Hh:Hearts K Tryz.prog)
include Hh
set_option maxHeartbeats 4000000 in
theorem Eu {args:List W} {h h':Hq} {v:V} (e:Zfj args h=some (v,h')):Zi 19 args h v h':=by
 unfold Zfj at e
 split at e
 ·rename_i s z
  obtain⟨S0,hs0,e⟩:=Zj e
  obtain⟨G0,hg0,e⟩:=Zj e
  obtain⟨bz,e⟩:=Zq.1 e
  have z1:=of_decide_eq_true bz
  have hs:=Y8 hs0
  obtain⟨hg,fb⟩:=Uz hg0
  refine Zy.tidy ⟨Tryz.f19,Tryz.func19,kR,by decide⟩ fun tidy=>?_
  have l1:=tidy _ _ hs
  have l5:=tidy _ _ hg
  rcases hb:Uu G0.gr G0.sz G0.ino G0.jr z with _|_
  ·rw[hb] at e
   cases e
   obtain⟨v,h2,c,rfl,hk⟩:∃ v h2,Zi 19 [.c (.ptr s 0),.c (.int .i64 z)] h v h2/\v=.tup [.g zB,.c (.int .i64 2)]/\∀ m,m<h.next->h2.get m=h.get m:=by
    refine Y0 Hh Tryz.f19 ?_
    repeat (first|apply Zu|apply Ye|apply Yc|((first|apply Goes.Zl|apply Goes.ops2 fits Hh (EY (EY (EY Za (Oa Hh)) (Nq Hh)) (Vq Hh))); · simp (maxSteps:=9^6) +decide (disch:=first|exact dZ|fail) only [go_sem,Zh,simprocAttr,hs,hg,gdL,fb,hb,zB,read1]<;>rfl))
    exact⟨_,_,(by simp (maxSteps:=9^6) +decide (disch:=first|exact dZ|fail) only [go_sem,Zh,simprocAttr,zB]<;>rfl),rfl,fun m hm=>by exact Le⟩
   exact c.quiet (F4 Z5e) hk
  ·rw[hb] at e
   have e:Rm [.c (.ptr s 0),.c (.int .i64 z)] h=some (v,h'):=e
   obtain⟨S,ld,hs2,hd,q⟩:=Zdu e
   have eS:S0=S:=by
    rw[hs] at hs2
    have e1:stL S0=stL S:=by simpa using hs2
    exact Z41 e1
   subst eS
   have l2:=tidy _ _ hd
   obtain⟨y,hl,yl,yf,rfl,rfl⟩|⟨hl,X,lc,ht,hc,⟨y,hl2,yl,yf,rfl,rfl⟩|⟨hl2,G,hg2,fb2,vl,e⟩⟩:=q
   ·have tl:(y.drop 1).length=256:=by rw[List.length_drop]; omega
    obtain⟨v,h2,c,rfl,hk⟩:∃ v h2,Zi 19 [.c (.ptr s 0),.c (.int .i64 z)] h' v h2/\v=.tup [.g (y.drop 1),.c (.int .i64 0)]/\∀ m,m<h'.next->h2.get m=h'.get m:=by
     refine Y0 Hh Tryz.f19 ?_
     repeat (first|apply Zu|apply Ye|apply Yc|((first|apply Goes.Zl|apply Goes.ops2 fits Hh (EY (EY (EY Za (Oa Hh)) (Nq Hh)) (Vq Hh))); · simp (maxSteps:=9^6) +decide (disch:=first|exact dZ|fail) only [go_sem,Zh,simprocAttr,hs,hg,gdL,fb,hb,hd,hl,yl,yf,read1]<;>rfl))
     exact⟨_,_,Y6,rfl,fun m hm=>by exact Le⟩
    exact c.quiet (F4 (Zkg 1 yf)) hk
   ·have l3:=tidy _ _ ht
    have l4:=tidy _ _ hc
    obtain⟨v,h2,c,rfl,hk⟩:∃ v h2,Zi 19 [.c (.ptr s 0),.c (.int .i64 z)] h' v h2/\v=.tup [.g y,.c (.int .i64 0)]/\∀ m,m<h'.next->h2.get m=h'.get m:=by
     refine Y0 Hh Tryz.f19 ?_
     repeat (first|apply Zu|apply Ye|apply Yc|((first|apply Goes.Zl|apply Goes.ops2 fits Hh (EY (EY (EY Za (Oa Hh)) (Nq Hh)) (Vq Hh))); · simp (maxSteps:=9^6) +decide (disch:=first|exact dZ|fail) only [go_sem,Zh,simprocAttr,hs,hg,gdL,fb,hb,hd,hl,ht,hc,hl2,yl,yf,read1]<;>rfl))
     exact⟨_,_,Y6,rfl,fun m hm=>by exact Le⟩
    exact c.quiet (F4 yf) hk
   ·have eG:G0=G:=by
     rw[hg] at hg2
     have e1:gdL G0=gdL G:=by simpa using hg2
     exact Z3p e1
    subst eG
    obtain⟨k1,k2,k3,k4,k5,k6,ro,hli⟩:=Ri vl
    obtain⟨Y,D,l,hck,hdk,n0,n1,z0,z2,hm,⟨y,hl3,yl,yf,rfl,rfl⟩|⟨hl3,fl,x,L,ro,hq,hL,xl,xf,rfl,rfl⟩⟩:=Zdr e
    ·have l3:=tidy _ _ ht
     have l4:=tidy _ _ hc
     have l6:=tidy _ _ hck
     have l7:=tidy _ _ hdk
     have l8:=tidy _ _ hm
     have l9:=tidy _ _ hli
     have l10:=tidy _ _ hg2
     have tl:(y.take 256).length=256:=by rw[List.length_take]; omega
     obtain⟨v,h2,c,rfl,hk⟩:∃ v h2,Zi 19 [.c (.ptr s 0),.c (.int .i64 z)] h' v h2/\v=.tup [.g (y.take 256),.c (.int .i64 0)]/\∀ m,m<h'.next->h2.get m=h'.get m:=by
      refine Y0 Hh Tryz.f19 ?_
      repeat (first|apply Zu|apply Ye|apply Yc|((first|apply Goes.Zl|apply Goes.ops2 fits Hh (EY (EY (EY Za (Oa Hh)) (Nq Hh)) (Vq Hh))); · simp (maxSteps:=9^6) +decide (disch:=first|exact dZ|fail) only [go_sem,Zh,simprocAttr,hs,hg2,gdL,fb,fb2,hb,hd,hl,ht,hc,hl2,hli,hck,hdk,hm,hl3,yl,yf,zB,read1]<;>rfl))
      exact⟨_,_,Y6,rfl,fun m hm=>by exact Le⟩
     exact c.quiet (F4 (Zkh 256 yf)) hk
    ·have l3:=tidy _ _ ht
     have l4:=tidy _ _ hc
     have l6:=tidy _ _ hck
     have l7:=tidy _ _ hdk
     have l8:=tidy _ _ hm
     have l9:=tidy _ _ hli
     have l10:=tidy _ _ hg2
     have l11:=tidy _ _ hq
     obtain⟨v,h2,c,rfl,hk⟩:∃ v h2,Zi 19 [.c (.ptr s 0),.c (.int .i64 z)] h v h2/\v=.tup [.g x,.c (.int .i64 0)]/\∀ m,m<h.next->h2.get m=(h.put Y.m (.map (Y5 (Ol z (x++[.bool false]) l)))).get m:=by
      refine Y0 Hh Tryz.f19 ?_
      repeat (first|apply Zu|apply Ye|apply Yc|((first|apply Goes.Zl|apply Goes.ops2 fits Hh (EY (EY (EY Za (Oa Hh)) (Nq Hh)) (Vq Hh))); · simp (maxSteps:=9^6) +decide (disch:=first|exact dZ|fail) only [go_sem,Zh,simprocAttr,hs,hg2,gdL,fb,fb2,hb,hd,hl,ht,hc,hl2,hli,hck,hdk,hm,hl3,hq,hL,xl,xf,fl,zB,read1]<;>rfl))
      exact⟨_,_,Y6,rfl,fun m hm=>by exact Le⟩
     refine c.settle ((Ru.refl tidy).put l8 (D7 (Og ?_ fl))) (Zgd.flat (F4 xf)) hk
     rw[List.all_append,xf]; rfl
 ·cases e
end
theorem rs76:Tryz.f76.results.toList=[.tmp 6]:=rfl
attribute [go_sem] rs76
theorem Zqr {t:Nat} {z:Int} {x:List C} {h h':Hq} {v:V} (e:Zi6 [.c (.ptr t 0),.c (.int .i64 z),.g x] h=some (v,h')):∃ X to lt lc lf m,h.get t=some (.row 13 [txL X] false)/\X.to=.map to/\h.get to=some (.map (Y5 lt))/\h.get X.ch=some (.map (Y5 lc))/\h.get X.fr=some (.map (Y5 lf))/\h.get X.rv=some (.row 1 [[.map m]] false)/\h.get m=some (.map []) /\
  X.op=true/\0<=z/\(match Ym z lt with|none=>decide ((lt.length:Int)<X.cr)|some []=>true|some (_ :: _)=>false)=true/\x.length=256/\x.all C.flat=true/\Ou lt=true/\Ou lc=true/\Ou lf=true /\
  Nat.beq to X.ch=false/\Nat.beq to X.fr=false/\Nat.beq X.ch X.fr=false/\Nat.beq to m=false/\Nat.beq X.ch m=false/\Nat.beq X.fr m=false/\Nat.beq to t=false/\Nat.beq X.ch t=false/\Nat.beq X.fr t=false/\Nat.beq to X.rv=false/\Nat.beq X.ch X.rv=false/\Nat.beq X.fr X.rv=false /\
  v=.w (.c (.int .i64 0))/\h'=((h.put to (.map (Y5 (Ol z [] lt)))).put X.ch (.map (Y5 (Ol z x lc)))).put X.fr (.map (Y5 (Dw z lf))):=by
 unfold Zi6 at e
 obtain⟨X,ht,e⟩:=Zj e
 have ht:=Yk ht
 obtain⟨to,hto,e⟩:=Zj e
 have hto:=Zij hto
 obtain⟨lt,hlt,e⟩:=Zj e
 have hlt:=getM_some hlt
 obtain⟨lc,hlc,e⟩:=Zj e
 have hlc:=getM_some hlc
 obtain⟨lf,hlf,e⟩:=Zj e
 have hlf:=getM_some hlf
 obtain⟨m,hr,e⟩:=Zj e
 have hr:=Jk hr
 obtain⟨b,e⟩:=Zq.1 e
 cases e
 simp only[aQ,Bool.not_eq_true'] at b
 obtain⟨⟨⟨⟨⟨⟨⟨⟨⟨⟨⟨⟨⟨⟨⟨⟨⟨⟨⟨⟨bo,z0⟩,bm⟩,bc⟩,bx⟩,xf⟩,f1⟩,f2⟩,f3⟩,c1⟩,c2⟩,c3⟩,c4⟩,c5⟩,c6⟩,c7⟩,c8⟩,c9⟩,c10⟩,c11⟩,c12⟩:=b
 exact⟨X,to,lt,lc,lf,m,ht,hto,hlt,hlc,hlf,hr,Yz bm,bo,of_decide_eq_true z0,bc,bQ bx,xf,f1,f2,f3,c1,c2,c3,c4,c5,c6,c7,c8,c9,c10,c11,c12,rfl,rfl⟩
def Zs8 (s:Nat) (S:Stt) (z:Int) (x:List C) (h:Hq):Option (V × Hq):=(getM h S.dt).bind fun _=>(getM h S.gv).bind fun _=>Yt (C.flat S.bs) (Zi6 [.c (.ptr S.tx 0),.c (.int .i64 z),.g x] (h.put s (.row 8 [stL { S with kn:=false }] false)))
def Zqq:Kn1:=fun args h=>match args with
 | [.c (.ptr s 0),.c (.int .i64 z),.g x]=>(Da h s).bind fun S=>(Uf h S.tx).bind fun X=>(Mj h S.gd).bind fun G=>Yt (X.op&&decide (z<9223372036854775808)&&Uu G.gr G.sz G.ino G.jr z) (Zs8 s S z x h)
 | _=>none
theorem Z7f {b:Nat} {S:Stt} (l2:S.gd<b) (l3:S.tx<b) (l4:S.dt<b) (l5:S.gv<b) (fb:C.flat S.bs=true) (k:Bool):Zqv b (.row 8 [stL { S with kn:=k }] false):=by
 refine Zup fun τ hτ=>?_
 show [[C.ptr (τ S.gd) 0,.ptr (τ S.tx) 0,.pnil,.map (τ S.dt),.map (τ S.gv),S.bs.ren τ,.bool k,.bool false]]=_
 rw[hτ _ l2,hτ _ l3,hτ _ l4,hτ _ l5,C.Je fb]
 rfl
section
variable (Hh:Hearts K Tryz.prog)
include Hh
set_option maxHeartbeats 4000000 in
theorem Zdt {args:List W} {h h':Hq} {v:V} (e:Zqq args h=some (v,h')):Zi 76 args h v h':=by
 unfold Zqq at e
 split at e
 ·rename_i s z x
  obtain⟨S,hs,e⟩:=Zj e
  have hs:=Y8 hs
  obtain⟨X,ht,e⟩:=Zj e
  have ht:=Yk ht
  obtain⟨G,hg,e⟩:=Zj e
  obtain⟨hg,fb⟩:=Uz hg
  obtain⟨b,e⟩:=Zq.1 e
  simp only[aQ,decide_eq_true_eq] at b
  obtain⟨⟨bo,z1⟩,bou⟩:=b
  refine Zy.tidy ⟨Tryz.f76,Tryz.func76,kR,by decide⟩ fun tidy=>?_
  unfold Zs8 at e
  obtain⟨ldt,hdt,e⟩:=Zj e
  have hdt:=getM_some hdt
  obtain⟨lgv,hgv,e⟩:=Zj e
  have hgv:=getM_some hgv
  obtain⟨fbs,e⟩:=Zq.1 e
  have l1:=tidy _ _ hs
  have k2:=tidy _ _ hg
  have k3:=tidy _ _ ht
  have k4:=tidy _ _ hdt
  have k5:=tidy _ _ hgv
  have hput:∀ m,m≠s->(h.put s (.row 8 [stL { S with kn:=false }] false)).get m=h.get m:=fun m hm=>Zd hm
  have nt:S.tx≠s:=fun e1=>by rw[e1,hs] at ht; cases ht
  obtain⟨X',to,lt,lc,lf,m,ht',hto,hlt,hlc,hlf,hr,hm,bo',z0,bc,xl,xf,f1,f2,f3,c1,c2,c3,c4,c5,c6,c7,c8,c9,c10,c11,c12,rfl,rfl⟩:=Zqr e
  rw[hput _ nt] at ht'
  have n0:to≠s:=fun e1=>by rw[e1,Zx] at hlt; cases hlt
  have nc:X'.ch≠s:=fun e1=>by rw[e1,Zx] at hlc; cases hlc
  have nf:X'.fr≠s:=fun e1=>by rw[e1,Zx] at hlf; cases hlf
  have nr:X'.rv≠s:=fun e1=>by rw[e1,Zx] at hr; cases hr
  have nm:m≠s:=fun e1=>by rw[e1,Zx] at hm; cases hm
  rw[hput _ n0] at hlt
  rw[hput _ nc] at hlc
  rw[hput _ nf] at hlf
  rw[hput _ nr] at hr
  rw[hput _ nm] at hm
  have k6:=tidy _ _ hlt
  have k7:=tidy _ _ hlc
  have k8:=tidy _ _ hlf
  have k9:=tidy _ _ hr
  have k10:=tidy _ _ hm
  have n1:=Y3 c1
  have n2:=Y3 c2
  have n3:=Y3 c3
  have n4:=Y3 c4
  have n5:=Y3 c5
  have n6:=Y3 c6
  have n7:=Y3 c7
  have n8:=Y3 c8
  have n9:=Y3 c9
  have n10:=Y3 c10
  have n11:=Y3 c11
  have n12:=Y3 c12
  have md3:True:=trivial
  have z0d:decide (0<=z)=true:=decide_eq_true z0
  obtain⟨v,h',c,rfl,hk⟩:∃ v h',Zi 76 [.c (.ptr s 0),.c (.int .i64 z),.g x] h v h'/\v=.w (.c (.int .i64 0))/\∀ j,j<h.next->h'.get j=((((h.put s (.row 8 [stL { S with kn:=false }] false)).put to (.map (Y5 (Ol z [] lt)))).put X'.ch (.map (Y5 (Ol z x lc)))).put X'.fr (.map (Y5 (Dw z lf)))).get j:=by
   rcases hl:Ym z lt with _|y
   ·
    rw[hl] at bc
    have bc:decide ((lt.length:Int)<X'.cr)=true:=bc
    refine Y0 Hh Tryz.f76 ?_
    repeat (first|apply Zu|apply Ye|apply Yc|((first|apply Goes.Zl|apply Goes.ops2 fits Hh (EY (EY Za (Uo Hh)) (Zdw Hh))); · simp (maxSteps:=9^6) +decide (disch:=first|exact dZ|fail) only [go_sem,Zh,simprocAttr,hs,ht',hg,gdL,fb,bou,bo',md3,z0d,hto,hlt,hlc,hlf,hr,hm,hl,bc,xl,xf,f1,f2,f3,c1,c2,c3,c4,c5,c6,c7,c8,c9,c10,c11,c12,read1]<;>rfl)|(apply Goes.drawn2 fits Hh (EY (EY Za (Uo Hh)) (Zdw Hh)) kR; · simp (maxSteps:=9^6) +decide (disch:=first|exact dZ|fail) only [go_sem,Zh,simprocAttr,drG,hs,ht',hg,gdL,fb,bou,bo',md3,z0d,hto,hlt,hlc,hlf,hr,hm,hl,bc,xl,xf,f1,f2,f3,c1,c2,c3,c4,c5,c6,c7,c8,c9,c10,c11,c12,read1]<;>rfl))
    exact⟨_,_,Y6,rfl,fun j hj=>by exact Le⟩
   ·
    rw[hl] at bc
    rcases y with _|⟨y0,y⟩
    ·
     refine Y0 Hh Tryz.f76 ?_
     repeat (first|apply Zu|apply Ye|apply Yc|((first|apply Goes.Zl|apply Goes.ops2 fits Hh (EY (EY Za (Uo Hh)) (Zdw Hh))); · simp (maxSteps:=9^6) +decide (disch:=first|exact dZ|fail) only [go_sem,Zh,simprocAttr,hs,ht',hg,gdL,fb,bou,bo',md3,z0d,hto,hlt,hlc,hlf,hr,hm,hl,bc,xl,xf,f1,f2,f3,c1,c2,c3,c4,c5,c6,c7,c8,c9,c10,c11,c12,read1]<;>rfl)|(apply Goes.drawn2 fits Hh (EY (EY Za (Uo Hh)) (Zdw Hh)) kR; · simp (maxSteps:=9^6) +decide (disch:=first|exact dZ|fail) only [go_sem,Zh,simprocAttr,drG,hs,ht',hg,gdL,fb,bou,bo',md3,z0d,hto,hlt,hlc,hlf,hr,hm,hl,bc,xl,xf,f1,f2,f3,c1,c2,c3,c4,c5,c6,c7,c8,c9,c10,c11,c12,read1]<;>rfl))
     exact⟨_,_,Y6,rfl,fun j hj=>by exact Le⟩
    ·cases bc
  exact c.settle (((((Ru.refl tidy).put l1 (Z7f k2 k3 k4 k5 fbs false)).put k6 (D7 (Og rfl f1))).put k7 (D7 (Og xf f2))).put k8 (D7 (Tj f3))) (Zgd.flat rfl) hk
 ·cases e
end
theorem rs130:Tryz.f130.results.toList=[.tmp 6]:=rfl
theorem rs190:Tryz.f190.results.toList=[.tmp 6]:=rfl
attribute [go_sem] rs130 rs190
theorem Xp {h:Hq} {a m sz:Nat} {L:List (List C)} {ro:Bool} {es:List (W × W)} (ha:h.get a=some (.row sz L ro)) (hm:h.get m=some (.map es)):a≠m:=fun e=>by
 rw[e,hm] at ha
 cases ha
def Fu (q:Int) (l:List Int):List (W × W):=l.map fun b=>(.g [.int .i64 b,.int .u32 q],.g [])
def Sq (b:Int):List Int->List Int
 | []=>[b]
 | k :: l=>bif b == k then b :: l else k :: Sq b l
def Zbd (b:Int):List Int->List Int
 | []=>[]
 | k :: l=>bif b == k then l else k :: Zbd b l
theorem Qo {b x:Int}:∀ {l:List Int},x∈Sq b l ↔ x=b\/x∈l
 | []=>by simp [Sq]
 | k :: l=>by
  show (x∈bif b == k then b :: l else k :: Sq b l) ↔ _
  by_cases e:b=k
  ·subst e
   rw[O7 rfl]
   show x∈b :: l ↔ _
   simp
  ·rw[U7 e]
   show x∈k :: Sq b l ↔ _
   rw[List.mem_cons,Qo,List.mem_cons]
   constructor
   ·rintro (h|h|h)
    ·exact .inr (.inl h)
    ·exact .inl h
    ·exact .inr (.inr h)
   ·rintro (h|h|h)
    ·exact .inr (.inl h)
    ·exact .inl h
    ·exact .inr (.inr h)
theorem Zb1 {b:Int}:∀ {l:List Int},l.Nodup->(Sq b l).Nodup
 | [],_=>by simp [Sq]
 | k :: l,h=>by
  show (bif b == k then b :: l else k :: Sq b l).Nodup
  have hh:=List.nodup_cons.1 h
  by_cases e:b=k
  ·subst e
   rw[O7 rfl]
   exact h
  ·rw[U7 e]
   refine List.nodup_cons.2 ⟨fun hm=>?_,Zb1 hh.2⟩
   rcases Qo.1 hm with w|w
   ·exact e w.symm
   ·exact hh.1 w
theorem Zcn {b x:Int}:∀ {l:List Int},x∈Zbd b l->x∈l
 | [],h=>h
 | k :: l,h=>by
  have h:x∈bif b == k then l else k :: Zbd b l:=h
  cases e:b == k with
  | true=>rw[e] at h; exact List.mem_cons_of_mem _ h
  | false =>
   rw[e] at h
   rcases List.mem_cons.1 h with w|w
   ·rw[w]; exact List.mem_cons_self ..
   ·exact List.mem_cons_of_mem _ (Zcn w)
theorem Zgt {b:Int}:∀ {l:List Int},l.Nodup->(Zbd b l).Nodup/\b ∉ Zbd b l
 | [],_=>⟨List.nodup_nil,fun h=>by cases h⟩
 | k :: l,h=>by
  have hh:=List.nodup_cons.1 h
  show (bif b == k then l else k :: Zbd b l).Nodup/\b ∉ bif b == k then l else k :: Zbd b l
  by_cases e:b=k
  ·subst e
   rw[O7 rfl]
   exact⟨hh.2,hh.1⟩
  ·rw[U7 e]
   have ih:=Zgt (b:=b) hh.2
   refine⟨List.nodup_cons.2 ⟨fun hm=>hh.1 (Zcn hm),ih.1⟩,fun hm=>?_⟩
   rcases List.mem_cons.1 hm with w|w
   ·exact e w
   ·exact ih.2 w
def vdE (l:List Int):Ut:=l.map fun z=>(z,[])
theorem Zil (z:Int):∀ l:List Int,Ol z [] (vdE l)=vdE (Sq z l)
 | []=>rfl
 | k :: l=>by
  show (bif z == k then (z,[]) :: vdE l else (k,[]) :: Ol z [] (vdE l))=vdE (bif z == k then z :: l else k :: Sq z l)
  cases z == k with
  | true=>rfl
  | false=>simp only[cond_false]; rw[Zil z l]; rfl
theorem Zgu (z:Int):∀ l:List Int,Dw z (vdE l)=vdE (Zbd z l)
 | []=>rfl
 | k :: l=>by
  show (bif z == k then vdE l else (k,[]) :: Dw z (vdE l))=vdE (bif z == k then l else k :: Zbd z l)
  cases z == k with
  | true=>rfl
  | false=>simp only[cond_false]; rw[Zgu z l]; rfl
theorem Z3k (l:List Int):Ou (vdE l)=true:=List.all_eq_true.2 fun p hp=>by
 obtain⟨z,_,rfl⟩:=List.mem_map.1 hp
 rfl
theorem Z5n (a b q:Int):eqT K 20 286 (.g [.int .i64 a,.int .u32 q]) (.g [.int .i64 b,.int .u32 q])=some (a == b):=by
 have e:∀ r,eqT K 20 286 (.g [.int .i64 a,.int .u32 q]) (.g [.int .i64 b,.int .u32 r])=(match (some (a == b):Option Bool) with
  | some true=>(match (some (q == r):Option Bool) with
   | some true=>some true
   | w=>w)
  | w=>w):=fun r=>kR
 rw[e]
 have qq:(q == q)=true:=O7 rfl
 rw[qq]
 cases a == b<;>rfl
theorem Z97 (a q:Int):Xd (.g [.int .i64 a,.int .u32 q]) (.g [.int .i64 a,.int .u32 q])=true:=by
 have e:Y4 [.int .i64 a,.int .u32 q] [.int .i64 a,.int .u32 q]=bif a == a then (bif q == q then some true else some false) else some false:=rfl
 show (match Y4 [.int .i64 a,.int .u32 q] [.int .i64 a,.int .u32 q] with
  | some true=>true
  | _=>false)=true
 rw[e,show (a == a)=true from O7 rfl,show (q == q)=true from O7 rfl]
 rfl
theorem Zpr (b q:Int):∀ l:List Int,Zh8 K 286 (.g [.int .i64 b,.int .u32 q]) (.g []) (Fu q l)=some (Fu q (Sq b l))
 | []=>rfl
 | k :: l=>by
  show (match eqT K 20 286 (.g [.int .i64 b,.int .u32 q]) (.g [.int .i64 k,.int .u32 q]) with
   | none=>none
   | some true=>bif Xd (.g [.int .i64 k,.int .u32 q]) (.g [.int .i64 b,.int .u32 q]) then some ((W.g [.int .i64 b,.int .u32 q],W.g []) :: Fu q l) else none
   | some false=>match Zh8 K 286 (.g [.int .i64 b,.int .u32 q]) (.g []) (Fu q l) with
    | none=>none
    | some l'=>some ((W.g [.int .i64 k,.int .u32 q],W.g []) :: l'))=some (Fu q (bif b == k then b :: l else k :: Sq b l))
  rw[Z5n]
  by_cases e:b=k
  ·subst e
   rw[O7 rfl]
   simp only
   rw[Z97]
   rfl
  ·rw[U7 e]
   simp only
   rw[Zpr b q l]
   rfl
theorem Zop (b q:Int):∀ l:List Int,Zje K 286 (.g [.int .i64 b,.int .u32 q]) (Fu q l)=some (Fu q (Zbd b l))
 | []=>rfl
 | k :: l=>by
  show (match eqT K 20 286 (.g [.int .i64 b,.int .u32 q]) (.g [.int .i64 k,.int .u32 q]) with
   | none=>none
   | some true=>some (Fu q l)
   | some false=>match Zje K 286 (.g [.int .i64 b,.int .u32 q]) (Fu q l) with
    | none=>none
    | some l'=>some ((W.g [.int .i64 k,.int .u32 q],W.g []) :: l'))=some (Fu q (bif b == k then l else k :: Zbd b l))
  rw[Z5n]
  cases b == k with
  | true=>rfl
  | false=>simp only; rw[Zop b q l]; rfl
def Zkz (q:Int):List (W × W)->Option (List Int)
 | []=>some []
 | (.g [.int .i64 b,.int .u32 r],.g []) :: l=>bif r == q then (match Zkz q l with
  | some x=>some (b :: x)
  | none=>none) else none
 | _=>none
theorem Zk0 (q:Int):∀ l:List Int,Zkz q (Fu q l)=some l
 | []=>rfl
 | b :: l=>by
  show (bif q == q then (match Zkz q (Fu q l) with
   | some x=>some (b :: x)
   | none=>none) else none)=_
  rw[Zk0 q l,show (q == q)=true from O7 rfl]
  rfl
theorem Zr9 {q:Int}:∀ {es:List (W × W)} {l:List Int},Zkz q es=some l->es=Fu q l:=by
 intro es
 induction es with
 | nil=>intro l e; cases e; rfl
 | cons p es ih =>
  intro l e
  unfold Zkz at e
  split at e
  ·rename_i h; cases h
  ·rename_i b r l' h
   cases h
   cases hq:r == q with
   | false=>rw[hq] at e; cases e
   | true =>
    obtain rfl:r=q:=eq_of_beq hq
    rw[show (r == r)=true from O7 rfl] at e
    simp only[cond_true] at e
    split at e
    ·rename_i x hx
     cases e
     rw[ih hx]
     rfl
    ·cases e
  ·cases e
def Zjp (h:Hq) (m:Nat) (q:Int):Option (List Int):=match h.get m with
 | some (.map es)=>Zkz q es
 | _=>none
theorem Np {h:Hq} {m:Nat} {q:Int} {l:List Int} (e:Zjp h m q=some l):h.get m=some (.map (Fu q l)):=by
 unfold Zjp at e
 split at e
 ·rename_i es he
  rw[he,Zr9 e]
 ·cases e
theorem Z38 {b:Nat} {q:Int} {l:List Int}:Zqv b (.map (Fu q l)):=by
 refine⟨rfl,rfl,fun τ _=>?_⟩
 show O.map ((Fu q l).map (Z7x τ))=_
 congr 1
 rw[Fu,List.map_map]
 exact List.map_congr_left fun p hp=>rfl
def Z1o:Kn1:=fun args h=>match args with
 | [.c (.ptr r 0),.c (.int .i64 z),.c (.int .u32 q)]=>(Ee h r).bind fun m=>(Zjp h m q).bind fun l=>Yt (decide (0<=z)) (some (.w (.c (.int .i64 0)),h.put m (.map (Fu q (Sq z l)))))
 | _=>none
def Zs9:Kn1:=fun args h=>match args with
 | [.c (.ptr r 0),.c (.int .i64 z),.c (.int .u32 q)]=>(Ee h r).bind fun m=>(Zjp h m q).bind fun l=>Yt (decide (0<=z)) (some (.w (.c (.int .i64 0)),h.put m (.map (Fu q (Zbd z l)))))
 | _=>none
def Ztq:Kn1:=fun args h=>match args with
 | [.c (.ptr t 0),.c (.int .i64 z),.g x]=>(Uf h t).bind fun X=>(toN X.to).bind fun to=>(getM h to).bind fun lt=>(getM h X.ch).bind fun lc=>(getM h X.fr).bind fun lf=>(Ee h X.rv).bind fun m=>(Zjp h m X.sq).bind fun lr =>
  Yt (X.op&&decide (0<=z)&&(match Ym z lt with|none=>decide ((lt.length:Int)<X.cr)|some []=>true|some (_ :: _)=>false)&&Nat.beq x.length 256&&x.all C.flat&&Ou lt&&Ou lc&&Ou lf&&!(Nat.beq to X.ch)&&!(Nat.beq to X.fr)&&!(Nat.beq X.ch X.fr)&&!(Nat.beq to m)&&!(Nat.beq X.ch m)&&!(Nat.beq X.fr m))
   (some (.w (.c (.int .i64 0)),(((h.put to (.map (Y5 (Ol z [] lt)))).put X.ch (.map (Y5 (Ol z x lc)))).put X.fr (.map (Y5 (Dw z lf)))).put m (.map (Fu X.sq (Zbd z lr)))))
 | _=>none
def fgM (h:Hq) (t:Nat) (X:Tx) (z:Int) (lc lo lf:Ut):Hq:=(((h.put t (.row 13 [txL { X with op:=true,rk:=X.rk - 1 }] false)).put X.ch (.map (Y5 (Dw z lc)))).put X.od (.map (Y5 (Dw z lo)))).put X.fr (.map (Y5 (Ol z [] lf)))
def Zi4:Kn1:=fun args h=>match args with
 | [.c (.ptr t 0),.c (.int .i64 z),.c (.bool rv)]=>(Uf h t).bind fun X=>(getM h X.ch).bind fun lc=>(getM h X.od).bind fun lo=>(getM h X.fr).bind fun lf=>(Ee h X.rv).bind fun m=>(Zjp h m X.sq).bind fun lr =>
  Yt (X.op&&decide (0<=z)&&decide (0<X.rk)&&decide (X.rk<2048)&&!(Nat.beq X.ch X.od)&&!(Nat.beq X.ch X.fr)&&!(Nat.beq X.od X.fr)&&!(Nat.beq X.ch m)&&!(Nat.beq X.od m)&&!(Nat.beq X.fr m))
   (some (.w (.c (.int .i64 0)),bif rv then (fgM h t X z lc lo lf).put m (.map (Fu X.sq (Sq z lr))) else fgM h t X z lc lo lf))
 | _=>none
attribute [go_sem] Zpr Zop Zk0 Zjp Z1o Zs9 Ztq Zi4
section
variable (Hh:Hearts K Tryz.prog)
include Hh
theorem Rk {args:List W} {h h':Hq} {v:V} (e:Z1o args h=some (v,h')):Zi 130 args h v h':=by
 unfold Z1o at e
 split at e
 ·rename_i r z q
  obtain⟨m,hr,e⟩:=Zj e
  have hr:=Jk hr
  obtain⟨l,hm,e⟩:=Zj e
  have hm:=Np hm
  obtain⟨b,e⟩:=Zq.1 e
  have z0:=of_decide_eq_true b
  cases e
  refine fnG Hh Tryz.f130 ?_
  have Jf:=Jl @hr @hm
  repeat (first|apply Zu|apply Ye|apply Yc|refine Goes.Zl Z6 ?_|refine Zr Hh (EY Za (Zi0 Hh)) Z6 ?_)
  exact Zf
 ·cases e
theorem Za6 {args:List W} {h h':Hq} {v:V} (e:Zs9 args h=some (v,h')):Zi 186 args h v h':=by
 unfold Zs9 at e
 split at e
 ·rename_i r z q
  obtain⟨m,hr,e⟩:=Zj e
  have hr:=Jk hr
  obtain⟨l,hm,e⟩:=Zj e
  have hm:=Np hm
  obtain⟨b,e⟩:=Zq.1 e
  have z0:=of_decide_eq_true b
  cases e
  refine fnG Hh Tryz.f186 ?_
  repeat (first|apply Zu|apply Ye|apply Yc|((first|apply Goes.Zl|apply Goes.ops2 fits Hh (EY Za (Zi0 Hh))); · simp (maxSteps:=9^6) +decide (disch:=first|exact dZ|fail) only [go_sem,Zk,Zh,simprocAttr,hr,hm,read1,Zt,Oy,Eg]<;>rfl))
  exact Zf
 ·cases e
theorem Sk {args:List W} {h h':Hq} {v:V} (e:Zi4 args h=some (v,h')):Zi 190 args h v h':=by
 unfold Zi4 at e
 split at e
 ·rename_i t z rv
  obtain⟨X,ht,e⟩:=Zj e
  have ht:=Yk ht
  obtain⟨lc,hlc,e⟩:=Zj e
  have hlc:=getM_some hlc
  obtain⟨lo,hlo,e⟩:=Zj e
  have hlo:=getM_some hlo
  obtain⟨lf,hlf,e⟩:=Zj e
  have hlf:=getM_some hlf
  obtain⟨m,hr,e⟩:=Zj e
  have hr:=Jk hr
  obtain⟨lr,hm,e⟩:=Zj e
  have hm:=Np hm
  obtain⟨b,e⟩:=Zq.1 e
  cases e
  simp only[aQ,decide_eq_true_eq,Bool.not_eq_true'] at b
  obtain⟨⟨⟨⟨⟨⟨⟨⟨⟨bo,z0⟩,r0⟩,r1⟩,c1⟩,c2⟩,c3⟩,c4⟩,c5⟩,c6⟩:=b
  have n1:=Y3 c1
  have n2:=Y3 c2
  have n3:=Y3 c3
  have n4:=Y3 c4
  have n5:=Y3 c5
  have n6:=Y3 c6
  have t1:X.ch≠t:=fun e1=>by rw[e1,ht] at hlc; cases hlc
  have t2:X.od≠t:=fun e1=>by rw[e1,ht] at hlo; cases hlo
  have t3:X.fr≠t:=fun e1=>by rw[e1,ht] at hlf; cases hlf
  have t4:m≠t:=fun e1=>by rw[e1,ht] at hm; cases hm
  have t5:X.rv≠t:=fun e1=>by
   rw[e1,ht] at hr
   exact absurd (O.row.inj (Option.some.inj hr)).1 dM
  have t6:=Xp hr hlc
  have t7:=Xp hr hlo
  have t8:=Xp hr hlf
  have rz:(X.rk == 0)=false:=U7 oM
  cases rv with
  | true =>
   refine fnG Hh Tryz.f190 ?_
   repeat (first|apply Zu|apply Ye|apply Yc|((first|apply Goes.Zl|apply Goes.ops2 fits Hh (EY (EY Za (G8 Hh)) (Rk Hh))); · simp (maxSteps:=9^6) +decide (disch:=first|exact dZ|fail) only [go_sem,Zk,Zh,simprocAttr,ht,bo,hlc,hlo,hlf,hr,hm,rz,read1,Zt,Oy,Eg]<;>rfl)|(apply Goes.drawn2 fits Hh (EY (EY Za (G8 Hh)) (Rk Hh)) kR; · simp (maxSteps:=9^6) +decide (disch:=first|exact dZ|fail) only [go_sem,Zk,Zh,simprocAttr,drG,ht,bo,hlc,hlo,hlf,hr,hm,rz,read1,Zt,Oy,Eg]<;>rfl))
   simp (maxSteps:=9^6) +decide (disch:=first|exact dZ|fail) only [go_sem,Zk,Zh,simprocAttr,fgM]<;>rfl
  | false =>
   refine fnG Hh Tryz.f190 ?_
   repeat (first|apply Zu|apply Ye|apply Yc|((first|apply Goes.Zl|apply Goes.ops2 fits Hh (EY (EY Za (G8 Hh)) (Rk Hh))); · simp (maxSteps:=9^6) +decide (disch:=first|exact dZ|fail) only [go_sem,Zk,Zh,simprocAttr,ht,bo,hlc,hlo,hlf,hr,hm,rz,read1,Zt,Oy,Eg]<;>rfl)|(apply Goes.drawn2 fits Hh (EY (EY Za (G8 Hh)) (Rk Hh)) kR; · simp (maxSteps:=9^6) +decide (disch:=first|exact dZ|fail) only [go_sem,Zk,Zh,simprocAttr,drG,ht,bo,hlc,hlo,hlf,hr,hm,rz,read1,Zt,Oy,Eg]<;>rfl))
   simp (maxSteps:=9^6) +decide (disch:=first|exact dZ|fail) only [go_sem,Zk,Zh,simprocAttr,fgM]<;>rfl
 ·cases e
theorem Za9 {args:List W} {h h':Hq} {v:V} (e:Ztq args h=some (v,h')):Zi 136 args h v h':=by
 unfold Ztq at e
 split at e
 ·rename_i t z x
  obtain⟨X,ht,e⟩:=Zj e
  have ht:=Yk ht
  obtain⟨to,hto,e⟩:=Zj e
  have hto:=Zij hto
  obtain⟨lt,hlt,e⟩:=Zj e
  have hlt:=getM_some hlt
  obtain⟨lc,hlc,e⟩:=Zj e
  have hlc:=getM_some hlc
  obtain⟨lf,hlf,e⟩:=Zj e
  have hlf:=getM_some hlf
  obtain⟨m,hr,e⟩:=Zj e
  have hr:=Jk hr
  obtain⟨lr,hm,e⟩:=Zj e
  have hm:=Np hm
  obtain⟨b,e⟩:=Zq.1 e
  cases e
  refine Zy.tidy ⟨Tryz.f136,Tryz.func136,kR,by decide⟩ fun tidy=>?_
  have l1:=tidy _ _ ht
  have l2:=tidy _ _ hlt
  have l3:=tidy _ _ hlc
  have l4:=tidy _ _ hlf
  have l5:=tidy _ _ hr
  have l6:=tidy _ _ hm
  simp only[aQ,decide_eq_true_eq,Bool.not_eq_true'] at b
  obtain⟨⟨⟨⟨⟨⟨⟨⟨⟨⟨⟨⟨⟨bo,z0⟩,bc⟩,bx⟩,xf⟩,f1⟩,f2⟩,f3⟩,c1⟩,c2⟩,c3⟩,c4⟩,c5⟩,c6⟩:=b
  have xl:=bQ bx
  have n1:=Y3 c1
  have n2:=Y3 c2
  have n3:=Y3 c3
  have n4:=Y3 c4
  have n5:=Y3 c5
  have n6:=Y3 c6
  have t1:=Xp ht hlt
  have t2:=Xp ht hlc
  have t3:=Xp ht hlf
  have t4:=Xp ht hm
  have t5:=Xp hr hlt
  have t6:=Xp hr hlc
  have t7:=Xp hr hlf
  obtain⟨v,h',c,rfl,hk⟩:∃ v h',Zi 136 [.c (.ptr t 0),.c (.int .i64 z),.g x] h v h'/\v=.w (.c (.int .i64 0))/\∀ j,j<h.next->h'.get j=((((h.put to (.map (Y5 (Ol z [] lt)))).put X.ch (.map (Y5 (Ol z x lc)))).put X.fr (.map (Y5 (Dw z lf)))).put m (.map (Fu X.sq (Zbd z lr)))).get j:=by
   rcases hl:Ym z lt with _|y
   ·rw[hl] at bc
    have bc:=of_decide_eq_true bc
    refine Y0 Hh Tryz.f136 ?_
    have Jf:=Ju @ht @hto (Yw @hlt @hlc @hlf @hr @hm @bo @hl @xl @Qf)
    repeat (first|apply Zu|apply Ye|apply Yc|refine Goes.Zl Uq ?_|refine Zr Hh (EY (EY Za (G8 Hh)) (Za6 Hh)) Uq ?_|refine G6 Hh (EY (EY Za (G8 Hh)) (Za6 Hh)) Wt ?_)
    exact⟨_,_,Zf,rfl,fun j hj=>by exact Le⟩
   ·rw[hl] at bc
    rcases y with _|⟨y0,y⟩
    ·
     refine Y0 Hh Tryz.f136 ?_
     have Jf:=Ju @ht @hto (Yw @hlt @hlc @hlf @hr @hm @bo @hl @xl @Qf)
     repeat (first|apply Zu|apply Ye|apply Yc|refine Goes.Zl Uq ?_|refine Zr Hh (EY (EY Za (G8 Hh)) (Za6 Hh)) Uq ?_|refine G6 Hh (EY (EY Za (G8 Hh)) (Za6 Hh)) Wt ?_)
     exact⟨_,_,Zf,rfl,fun j hj=>by exact Le⟩
    ·cases bc
  exact c.settle (((((Ru.refl tidy).put l2 (D7 (Og rfl f1))).put l3 (D7 (Og xf f2))).put l4 (D7 (Tj f3))).put l6 Z38) (Zgd.flat rfl) hk
 ·cases e
end
theorem rs191:Tryz.f191.results.toList=[.tmp 4]:=rfl
theorem rs142:Tryz.f142.results.toList=[.tmp 4]:=rfl
attribute [go_sem] rs191 rs142
def gvE (l:List Int):List (W × W):=l.map fun b=>(.c (.int .i64 b),.c (.int .i64 1))
theorem Zuz (kt:TypeId) (b:Int):∀ l:List Int,Zh8 K kt (.c (.int .i64 b)) (.c (.int .i64 1)) (gvE l)=some (gvE (Sq b l))
 | []=>rfl
 | k :: l=>by
  show (match (if IntKind.i64=IntKind.i64 then some (b == k) else none) with
   | none=>none
   | some true=>some ((W.c (.int .i64 b),W.c (.int .i64 1)) :: gvE l)
   | some false=>match Zh8 K kt (.c (.int .i64 b)) (.c (.int .i64 1)) (gvE l) with
    | none=>none
    | some l'=>some ((W.c (.int .i64 k),W.c (.int .i64 1)) :: l'))=some (gvE (bif b == k then b :: l else k :: Sq b l))
  rw[if_pos rfl]
  cases b == k with
  | true=>rfl
  | false=>simp only; rw[Zuz kt b l]; rfl
def Z8f:Kn1:=fun args h=>match args with
 | [.c (.ptr l 0),.c (.int .i64 _)]=>Yt (Zfh h l) (some (.w (.c (.bool false)),h))
 | _=>none
attribute [go_sem] Zuz Z8f
section
variable (Hh:Hearts K Tryz.prog)
include Hh
theorem Zf8 {args:List W} {h h':Hq} {v:V} (e:Z8f args h=some (v,h')):Zi 191 args h v h':=by
 unfold Z8f at e
 split at e
 ·rename_i l z
  obtain⟨b,e⟩:=Zq.1 e
  obtain⟨a1,a2,a3,a4,a5,a6,ro,hl⟩:=Ri b
  cases e
  refine fnG Hh Tryz.f191 ?_
  have Jf:=@hl
  repeat (first|apply Zu|apply Jc|apply J8|apply Ye|apply Gr|apply Yc|refine Goes.Zl Bi ?_|refine Zr Hh (EY Za (Zu7 Hh)) Bi ?_)
  exact Zf
 ·cases e
end
end
end Go.Proofs.YteiljiijagmonaaGreatDoor
