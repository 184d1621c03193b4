/- blocks.Take, over any store whose handle is open. -/
import Derived.Test.YteiljiijagmonaaGreatDoorBta
set_option maxRecDepth 100000
set_option maxHeartbeats 4000000
set_option linter.unusedSimpArgs false
set_option linter.unusedVariables false
set_option linter.unusedSectionVars false
namespace Go.Proofs.YteiljiijagmonaaGreatDoor
open Go.Ev
noncomputable def lpB (ts:Zw) (d:Nat):O:=.loop ts 75 [33] (q115 [1,1,1,1,0,1,2,5]) (q115 [1,1,1,1,0,1,2,6]) .ready none d
structure GSb (n q a b c e:Nat) (cr:Cr) (md:Int) (S T:Lq) (V:Nat->Lq) (D:List Oq) (l p2 p4 p5 p7 pD:Nat) (ts:Zw) (d pg fi i:Nat) (ts1:Zw) (h h1:Hq):Prop where
 C:TCb n q a b c e cr md S T V D l p2 p4 p5 p7 pD ts h1
 hl:h1.get l=some (lpB ts d)
 s0:Ze ts1 0=.w (.c (.yield l))
 s1:Ze ts1 1=.w (.c (.ptr pg 0))
 s5:Ze ts1 5=.w (.c (.int .i64 (fi:Int)))
 s18:Ze ts1 18=.w (.c (.int .i64 (a:Int)))
 s19:Ze ts1 19=.w (.c (.int .i64 (i:Int)))
 gp:h1.get pg=some (.row 4 [[.int .i64 (a:Int),.int .i64 (b:Int),.int .i64 (c:Int),.int .i64 (e:Int)]] false)
 bg:q+9<=pg/\pg<h1.next/\pg≠l
 nx:h.next<=h1.next
 kp:∀ m,m<h.next->m≠n+6->m≠n+13->m≠l->h1.get m=h.get m
structure TAb (n q a b c e:Nat) (cr:Cr) (md:Int) (S T:Lq) (V:Nat->Lq) (pD l p4 p5 v:Nat) (ts:Zw) (d:Nat) (h0 h:Hq):Prop where
 M:HE n q a b c e cr md S T V h
 next:h0.next<=h.next
 hl:h.get l=some (.loop ts 75 [33] (q115 [1,1,1,1,0,1,2,5]) (q115 [1,1,1,1,0,1,2,6]) .done (some .ret) d)
 r4:h.get p4=some (.row 1 [[.int .i64 (v:Int)]] false)
 r5:h.get p5=some (.row 1 [[.int .i64 0]] false)
 keep:∀ m,m<h0.next->Out n q m->m≠l->m≠pD->m≠p4->m≠p5->h.get m=h0.get m
section
variable (Hh:Hearts K Tryz.prog)
include Hh
variable {n q a b c e:Nat} {cr:Cr} [Opn cr] {md:Int} {S T:Lq} {V:Nat->Lq} {D:List Oq} {g:Nat->Nat->Bool} {l p2 p4 p5 p7 pD d pg fi:Nat} {ts:Zw} {h:Hq}
theorem Z2p (f:Y1 a b c e=true) (B:Bmp a b c e V D g) {k:Nat} (ka:k<a) (fu:Zjt b c (g k)) (C:TCb n q a b c e cr md S T V D l p2 p4 p5 p7 pD ts h) (hl:h.get l=some (lpB ts d)) :
  ∃ E h',Sound K Tryz.prog E/\Gc E l (some [.c (.int .i64 (k:Int))]) h (some (lpB ts d))=some (.val (.w (.c (.bool true))) h')/\TCb n q a b c e cr md S T V D l p2 p4 p5 p7 pD ts h'/\h'.get l=some (lpB ts d)/\h.next<=h'.next/\∀ m,m<h.next->m≠n+6->m≠n+13->m≠l->h'.get m=h.get m:=by
 unfold lpB at hl ⊢
 obtain⟨xa,ds1,ts1,h1,kA,rfl,rfl,t1,t9,rfl⟩:=btA Hh l ts k h
 have C':=C
 obtain⟨M,e2,e4,e5,e7,c2,c4,c5,c7,cD,b2,b4,b5,b7,bD,bl,n1,n2,n3⟩:=C
 obtain⟨nq,nx,_⟩:=M.nx
 have M':=M.keep (h2:=h1.put l (.loop ts 75 [33] (q115 [1,1,1,1,0,1,2,5]) (q115 [1,1,1,1,0,1,2,6]) .busy none d)) (by rw[H.Zb]; omega) (fun m hm=>by rw[Zd oM])
 have Cb:TCb n q a b c e cr md S T V D l p2 p4 p5 p7 pD ts1 (h1.put l (.loop ts 75 [33] (q115 [1,1,1,1,0,1,2,5]) (q115 [1,1,1,1,0,1,2,6]) .busy none d)):=by
  refine⟨M',(t1 2 dM).trans e2,(t1 4 dM).trans e4,(t1 5 dM).trans e5,(t1 7 dM).trans e7,?_,?_,?_,?_,?_,b2,b4,b5,b7,bD,bl,n1,n2,n3⟩
  ·rw[Zd (Ne.symm n3.1)]; exact c2
  ·rw[Zd (Ne.symm n3.2.1)]; exact c4
  ·rw[Zd (Ne.symm n3.2.2.1)]; exact c5
  ·rw[Zd (Ne.symm n3.2.2.2)]; exact c7
  ·rw[Zd (Ne.symm n1.2.2.2.2)]; exact cD
 obtain⟨xb,ds2,ts2,h2,kB,rfl,nn,MB,kk⟩:=Z6f Hh f B ka fu Cb t9
 rw[H.Zb] at nn
 have gl:=(kk l (by rw[H.Zb]; exact bl.2) oM oM).trans (Zx ..)
 have Sd:=Bt (Bt Za kB) kA
 obtain⟨E,h3,Sd2,rnd,rfl⟩:∃ E h3,Sound K Tryz.prog E/\Gc E l (some [.c (.int .i64 (k:Int))]) h1 (h1.get l)=some (.val (.w (.c (.bool true))) h3)/\h3=h2.put l (.loop ts 75 [33] (q115 [1,1,1,1,0,1,2,5]) (q115 [1,1,1,1,0,1,2,6]) .ready none d):=by
  refine⟨_,_,Sd,Lu hl (by simp only[Uk]; rfl) (Eh ..) hl (Wl (fun e=>?_) |>.trans (Eh ..)) gl,rfl⟩
  have e1:=(Task.code.inj e).1
  rw[Zbp,Zbo] at e1
  cases e1
 rw[hl] at rnd
 have kk':∀ m,m<h1.next->m≠n+6->m≠n+13->m≠l->(h2.put l (.loop ts 75 [33] (q115 [1,1,1,1,0,1,2,5]) (q115 [1,1,1,1,0,1,2,6]) .ready none d)).get m=h1.get m:=fun m hm h6 h13 hne=>by
  rw[Zd hne,kk m (by rw[H.Zb]; exact hm) h6 h13,Zd hne]
 have M3:HE n q a b c e cr md S T V (h2.put l (.loop ts 75 [33] (q115 [1,1,1,1,0,1,2,5]) (q115 [1,1,1,1,0,1,2,6]) .ready none d)):=MB.keep (by rw[H.Zb]; omega) (fun m hm=>by rw[Zd oM])
 refine⟨_,_,Sd2,rnd,C'.keep M3 (by rw[H.Zb]; exact nn) (fun m hm hq hne=>kk' m hm oM oM hne),Zx ..,by rw[H.Zb]; exact nn,kk'⟩
theorem Z2q (f:Y1 a b c e=true) (B:Bmp a b c e V D g) {k t x y w:Nat} (ka:k<a) (F:FreeG b c D g k t x y w) (s2:1∈S/\1 ∉ T) (s3:2+e+k * b∈S/\2+e+k * b ∉ T) (C:TCb n q a b c e cr md S T V D l p2 p4 p5 p7 pD ts h) (hl:h.get l=some (lpB ts d)) :
  ∃ E h',Sound K Tryz.prog E/\Gc E l (some [.c (.int .i64 (k:Int))]) h (some (lpB ts d))=some (.val (.w (.c (.bool false))) h')/\TAb n q a b c e cr md S T (Zjr b e V D g k t x y w) pD l p4 p5 (2+e+k * b+t) ts d h h':=by
 unfold lpB at hl ⊢
 obtain⟨xa,ds1,ts1,h1,kA,rfl,rfl,t1,t9,rfl⟩:=btA Hh l ts k h
 obtain⟨M,e2,e4,e5,e7,c2,c4,c5,c7,cD,b2,b4,b5,b7,bD,bl,n1,n2,n3⟩:=C
 obtain⟨nq,nx,_⟩:=M.nx
 have M':=M.keep (h2:=h1.put l (.loop ts 75 [33] (q115 [1,1,1,1,0,1,2,5]) (q115 [1,1,1,1,0,1,2,6]) .busy none d)) (by rw[H.Zb]; omega) (fun m hm=>by rw[Zd oM])
 have Cb:TCb n q a b c e cr md S T V D l p2 p4 p5 p7 pD ts1 (h1.put l (.loop ts 75 [33] (q115 [1,1,1,1,0,1,2,5]) (q115 [1,1,1,1,0,1,2,6]) .busy none d)):=by
  refine⟨M',(t1 2 dM).trans e2,(t1 4 dM).trans e4,(t1 5 dM).trans e5,(t1 7 dM).trans e7,?_,?_,?_,?_,?_,b2,b4,b5,b7,bD,bl,n1,n2,n3⟩
  ·rw[Zd (Ne.symm n3.1)]; exact c2
  ·rw[Zd (Ne.symm n3.2.1)]; exact c4
  ·rw[Zd (Ne.symm n3.2.2.1)]; exact c5
  ·rw[Zd (Ne.symm n3.2.2.2)]; exact c7
  ·rw[Zd (Ne.symm n1.2.2.2.2)]; exact cD
 obtain⟨xb,ds2,ts2,h2,kB,rfl,nn,MB,kk,r4,r5⟩:=Z81 Hh f B ka F s2 s3 Cb t9
 rw[H.Zb] at nn
 have gl:=(kk l (by rw[H.Zb]; exact bl.2) ⟨⟨oM,oM,oM,oM,oM⟩,oM⟩ n1.2.2.2.2 n3.2.1 n3.2.2.1).trans (Zx ..)
 have Sd:=Bt (Bt Za kB) kA
 obtain⟨E,h3,Sd2,rnd,rfl⟩:∃ E h3,Sound K Tryz.prog E/\Gc E l (some [.c (.int .i64 (k:Int))]) h1 (h1.get l)=some (.val (.w (.c (.bool false))) h3)/\h3=h2.put l (.loop ts 75 [33] (q115 [1,1,1,1,0,1,2,5]) (q115 [1,1,1,1,0,1,2,6]) .done (some .ret) d):=by
  refine⟨_,_,Sd,Lu hl (by simp only[Uk]; rfl) (Eh ..) hl (Wl (fun e=>?_) |>.trans (Eh ..)) gl,rfl⟩
  have e1:=(Task.code.inj e).1
  rw[Zbp,Zbo] at e1
  cases e1
 rw[hl] at rnd
 refine⟨_,_,Sd2,rnd,MB.keep (by rw[H.Zb]; omega) (fun m hm=>by rw[Zd oM]),by rw[H.Zb]; exact nn,Zx ..,?_,?_,fun m m1 m2 m3 m4 m5 m6=>?_⟩
 ·rw[Zd (Ne.symm n3.2.1)]; exact r4
 ·rw[Zd (Ne.symm n3.2.2.1)]; exact r5
 ·rw[Zd m3,kk m (by rw[H.Zb]; exact m1) m2 m4 m5 m6,Zd m3]
theorem Zze (f:Y1 a b c e=true) (B:Bmp a b c e V D g) {j:Nat} (ja:j<=a) {Q:X->Lq->Zw->Hq->Prop}:∀ (k i:Nat) (ts1:Zw) (h1:Hq),i+k=j->(∀ i',i<=i'->i'<j->Zjt b c (g ((fi+i') % a)))->GSb n q a b c e cr md S T V D l p2 p4 p5 p7 pD ts d pg fi i ts1 h h1 ->
  (∀ ts2 h2,GSb n q a b c e cr md S T V D l p2 p4 p5 p7 pD ts d pg fi j ts2 h h2->Z7 32 none (q208 [1,1,1,2]) [] ts2 h2 Q)->fi<4096 ->
  Z7 32 none (q208 [1,1,1,2]) [] ts1 h1 Q:=by
 obtain⟨g1,g2,g3,g4,g5,g6,g7,g8,g9,g10,g11⟩:=Ya f
 intro k
 induction k with
 | zero =>
  intro i ts1 h1 hi fu G r _
  obtain rfl:i=j:=oM
  exact r ts1 h1 G
 | succ k ih =>
  intro i ts1 h1 hi fu G r fl
  obtain⟨C,hl,s0,s1,s5,s18,s19,gp,bg,nx,kp⟩:=G
  have km:=Nat.mod_lt (fi+i) (show 0<a by omega)
  have rm:T9 .i64 ((fi:Int)+(i:Int)) (a:Int)=some (.int .i64 (((fi+i) % a:Nat):Int)):=by
   have:=Sa (k:=.i64) (a:=fi+i) (b:=a) oM
   rwa [Int.natCast_add] at this
  have fu0:=fu i (Nat.le_refl _) oM
  obtain⟨kk,hkk⟩:=xzE ((fi+i) % a)
  rw[hkk] at km rm fu0
  obtain⟨E,h2,Sd,rnd,C2,hl2,n2,k2⟩:=Z2p Hh f B km fu0 C hl
  have gp2:=(k2 pg bg.2.1 (by have:=C.M.nx; omega) (by have:=C.M.nx; omega) bg.2.2).trans gp
  have dl:decide ((i:Int)<(a:Int))=true:=decide_eq_true oM
  have Jf:=Jl @s0 (Yw @s1 @s5 @s18 @s19 @gp @hl @dl @rm @rnd)
  iterate 11 (first|refine Goes.Zl Z6 ?_|refine Zr Hh Za Z6 ?_|apply gS)
  iterate 4 (first|refine Goes.Zl Z6 ?_|refine Zr Hh Sd Z6 ?_|apply gS)
  show Z7 32 none (q208 [1,1,1,2]) _ _ _ _
  refine ih (i+1) _ h2 oM (fun i' h1 h2=>fu i' oM h2) ⟨C2,hl2,?_,?_,?_,?_,?_,gp2,⟨bg.1,oM,bg.2.2⟩,oM,fun m hm h6 h13 hne=>(k2 m oM h6 h13 hne).trans (kp m hm h6 h13 hne)⟩ r fl
  ·have Jf:=@s0; exact Zn
  ·have Jf:=@s1; exact Zn
  ·have Jf:=@s5; exact Zn
  ·have Jf:=@s18; exact Zn
  ·exact Zf
end
def Fj (a b c e near:Nat):Nat:=(Oo a b c e near).2.1
theorem Zru {a b c e near:Nat} (h:(Oo a b c e near).1=0):Fj a b c e near=0:=by
 unfold Fj Oo at *
 split at h
 ·cases h
 ·split at h
  ·cases h
  ·split at h
   ·cases h
   ·split at h
    ·rw[if_neg (by assumption),if_neg (by assumption),if_neg (by assumption),if_pos (by assumption)]
    ·exfalso
     simp only at h
     split at h
     ·cases h
     ·split at h
      ·cases h
      ·split at h<;>cases h
theorem Zzz {a b c e near:Nat} (f:Y1 a b c e=true):Fj a b c e near<4096:=by
 obtain⟨g1,g2,g3,g4,g5,g6,g7,g8,g9,g10,g11⟩:=Ya f
 unfold Fj Oo
 split
 ·exact (by omega:0<4096)
 ·split
  ·exact (by omega:0<4096)
  ·split
   ·exact (by omega:0<4096)
   ·split
    ·exact (by omega:0<4096)
    ·show (near - 2 - e) / b<4096
     have:(near - 2 - e) / b<=near - 2 - e:=Nat.div_le_self _ _
     omega
section
variable (Hh:Hearts K Tryz.prog)
include Hh
variable {n q a b c e:Nat} {cr:Cr} [Opn cr] {md:Int} {S T:Lq} {V:Nat->Lq} {D:List Oq} {g:Nat->Nat->Bool} {l p2 p4 p5 p7 pD d pg pn:Nat} {ts:Zw} {h:Hq}
theorem Z2o (f:Y1 a b c e=true) (B:Bmp a b c e V D g) {near:Nat} (nl:near<9223372036854775808) {j k t x y w:Nat} (ja:j<a) (fu:∀ i,i<j->Zjt b c (g ((Fj a b c e near+i) % a))) (hk:(Fj a b c e near+j) % a=k) (F:FreeG b c D g k t x y w) (s2:1∈S/\1 ∉ T) (s3:2+e+k * b∈S/\2+e+k * b ∉ T) (C:TCb n q a b c e cr md S T V D l p2 p4 p5 p7 pD ts h) (hl:h.get l=some (lpB ts d))
  (hg:h.get pg=some (.row 4 [[.int .i64 (a:Int),.int .i64 (b:Int),.int .i64 (c:Int),.int .i64 (e:Int)]] false)) (hn:h.get pn=some (.row 1 [[.int .i64 (near:Int)]] false)) (bg:q+9<=pg/\pg<h.next/\pg≠l) :
  ∃ v h',Zi 208 [.c (.yield l),.c (.ptr pg 0),.c (.ptr pn 0)] h v h'/\TAb n q a b c e cr md S T (Zjr b e V D g k t x y w) pD l p4 p5 (2+e+k * b+t) ts d h h':=by
 obtain⟨g1,g2,g3,g4,g5,g6,g7,g8,g9,g10,g11⟩:=Ya f
 have cW:=fun h=>Zsi Hh (Ya f) h near nl
 have hz:=Zru (a:=a) (b:=b) (c:=c) (e:=e) (near:=near)
 have fl:=Zzz (near:=near) f
 have km:=Nat.mod_lt (Fj a b c e near+j) (show 0<a by omega)
 rw[hk] at km
 obtain⟨kd,hkd⟩:=xzE ((Oo a b c e near).1)
 obtain⟨od,hod⟩:=xzE ((Oo a b c e near).2.2)
 have hfi:(Oo a b c e near).2.1=Fj a b c e near:=rfl
 obtain⟨fi,hf⟩:=xzE (Fj a b c e near)
 simp only[hkd,hod,hfi,hf] at cW hz fu hk fl
 have last:∀ {Q:X->Lq->Zw->Hq->Prop} (ts2:Zw) (h2:Hq),GSb n q a b c e cr md S T V D l p2 p4 p5 p7 pD ts d pg fi j ts2 h h2->(∀ ts3 h3,TAb n q a b c e cr md S T (Zjr b e V D g k t x y w) pD l p4 p5 (2+e+k * b+t) ts d h h3->Q .ret [] ts3 h3)->Z7 32 none (q208 [1,1,1,2]) [] ts2 h2 Q:=by
  intro Q ts2 h2 G2 hQ
  obtain⟨C2,hl2,s0,s1,s5,s18,s19,gp,bg2,nx,kp⟩:=G2
  have rm:T9 .i64 ((fi:Int)+(j:Int)) (a:Int)=some (.int .i64 (k:Int)):=by
   have:=Sa (k:=.i64) (a:=fi+j) (b:=a) oM
   rw[hk] at this
   rwa [Int.natCast_add] at this
  obtain⟨E,h3,Sd,rnd,A⟩:=Z2q Hh f B km F s2 s3 C2 hl2
  have dl:decide ((j:Int)<(a:Int))=true:=decide_eq_true oM
  have Jf:=Jl @s0 (Yw @s1 @s5 @s18 @s19 @gp @hl2 @dl @rm @rnd)
  iterate 11 (first|refine Goes.Zl Z6 ?_|refine Zr Hh Za Z6 ?_|apply gS)
  iterate 3 (first|refine Goes.Zl Z6 ?_|refine Zr Hh Sd Z6 ?_|apply gS)
  refine hQ _ _ ⟨A.M,by have:=A.next; omega,A.hl,A.r4,A.r5,fun m hm ho m1 m2 m3 m4=>(A.keep m oM ho m1 m2 m3 m4).trans (kp m hm ho.1.1 ho.1.2.1 m1)⟩
 by_cases k0:kd=0
 ·obtain rfl:fi=0:=hz k0
  have e0:((kd:Int) == 0)=true:=O7 oM
  refine Y0 Hh Tryz.f208 ?_
  apply Zu
  iterate 9 (first|((first|apply Goes.Zl|apply Goes.ops2 fits Hh (Jj Za cW)); · simp (maxSteps:=9^6) +decide (disch:=first|exact dZ|fail) only [go_sem,Zk,Zh,simprocAttr,hg,hn,e0,Jr,read1]<;>rfl)|apply gS)
  refine Zze Hh f B (Nat.le_of_lt ja) j 0 _ _ oM (fun i' _ h2=>fu i' h2) (h:=h) ⟨C,hl,?_,?_,?_,?_,?_,hg,bg,Nat.le_refl _,fun _ _ _ _ _=>rfl⟩ (fun ts2 h2 G2=>last ts2 h2 G2 (fun ts3 h3 A=>?_)) fl
  ·exact Zf
  ·exact Zf
  ·exact Zf
  ·exact Zf
  ·exact Zf
  exact⟨_,_,Zf,A⟩
 ·have e0:((kd:Int) == 0)=false:=U7 oM
  refine Y0 Hh Tryz.f208 ?_
  apply Zu
  iterate 9 (first|((first|apply Goes.Zl|apply Goes.ops2 fits Hh (Jj Za cW)); · simp (maxSteps:=9^6) +decide (disch:=first|exact dZ|fail) only [go_sem,Zk,Zh,simprocAttr,hg,hn,e0,Jr,read1]<;>rfl)|apply gS)
  refine Zze Hh f B (Nat.le_of_lt ja) j 0 _ _ oM (fun i' _ h2=>fu i' h2) (h:=h) ⟨C,hl,?_,?_,?_,?_,?_,hg,bg,Nat.le_refl _,fun _ _ _ _ _=>rfl⟩ (fun ts2 h2 G2=>last ts2 h2 G2 (fun ts3 h3 A=>?_)) fl
  ·exact Zf
  ·exact Zf
  ·exact Zf
  ·exact Zf
  ·exact Zf
  exact⟨_,_,Zf,A⟩
end
section
variable (Hh:Hearts K Tryz.prog)
include Hh
variable {n q a b c e:Nat} {cr:Cr} [Opn cr] {md:Int} {S T:Lq} {V:Nat->Lq} {D:List Oq} {g:Nat->Nat->Bool} {p2 p4 p5 p7 pD pg pn:Nat} {ts:Zw} {h:Hq}
theorem Z20 (f:Y1 a b c e=true) (B:Bmp a b c e V D g) {near:Nat} (nl:near<9223372036854775808) {j k t x y w:Nat} (ja:j<a) (fu:∀ i,i<j->Zjt b c (g ((Fj a b c e near+i) % a))) (hk:(Fj a b c e near+j) % a=k) (F:FreeG b c D g k t x y w) (s2:1∈S/\1 ∉ T) (s3:2+e+k * b∈S/\2+e+k * b ∉ T)
  (C:∀ h2 l,h.next<l->l<h2.next->(∀ m,m<h.next->h2.get m=h.get m)->TCb n q a b c e cr md S T V D l p2 p4 p5 p7 pD ts h2) (nh:q+9<=h.next) (nq:n+23<=q) (l4:p4<h.next) (l5:p5<h.next) (lD:pD<h.next)
  (hg:h.get pg=some (.row 4 [[.int .i64 (a:Int),.int .i64 (b:Int),.int .i64 (c:Int),.int .i64 (e:Int)]] false)) (hn:h.get pn=some (.row 1 [[.int .i64 (near:Int)]] false)) (lg:q+9<=pg/\pg<h.next) (ln:pn<h.next) (e32:Ze ts 32=.w (.c (.fn 208 [] [some (pg,0),some (pn,0)]))) :
  Z7 75 none (q115 [1,1,1,1,0,1,2]) [] ts h fun x' ds' ts' h'=>x'=.ret/\ts'=ts/\ds'=[h.next]/\h'.get h.next=some .defers/\h'.get p4=some (.row 1 [[.int .i64 ((2+e+k * b+t:Nat):Int)]] false)/\h'.get p5=some (.row 1 [[.int .i64 0]] false)/\HE n q a b c e cr md S T (Zjr b e V D g k t x y w) h'/\h.next<=h'.next/\∀ m,m<h.next->Out n q m->m≠pD->m≠p4->m≠p5->h'.get m=h.get m:=by
 have g0:∀ (o:O) m,m<h.next->((h.new .defers).new o).get m=h.get m:=fun o m hm=>by rw[Yi (by rw[H.Zc]; omega),Yi oM]
 have gd:∀ o:O,((h.new .defers).new o).get h.next=some .defers:=fun o=>by rw[Yi (by rw[H.Zc]; omega),Dy]
 have T1:=C ((h.new .defers).new (lpB ts h.next)) (h.next+1) oM (by simp only[H.Zc]; omega) (fun m hm=>g0 _ m hm)
 rw[Zmz]
 refine Goes.Zm5 fits Hh (f:=208) (first:=[]) (caps:=[some (pg,0),some (pn,0)]) (by simp only[Zz,Yb,e32,asC]) (exE (Z2o Hh f B nl ja fu hk F s2 s3 T1 (by rw[Ob (by simp only[H.Zc]; omega)]; rfl) ((g0 _ _ lg.2).trans hg) ((g0 _ _ ln).trans hn) ⟨lg.1,by simp only[H.Zc]; omega,oM⟩) ?_)
 rintro v h3 A
 have an:=A.next
 simp only[H.Zc] at an
 refine⟨_,_,_,_,_,_,_,_,A.hl,by simp,?_⟩
 show _/\_/\_
 refine⟨rfl,rfl,rfl,?_,?_,?_,A.M.keep (by rw[H.Zb]; omega) (fun m hm=>by rw[Zd oM]),by rw[H.Zb]; omega,fun m hm ho m1 m2 m3=>?_⟩
 ·rw[Zd oM,A.keep _ (by simp only[H.Zc]; omega) ⟨⟨oM,oM,oM,oM,oM⟩,oM⟩ oM oM oM oM,gd]
 ·rw[Zd oM,A.r4]
 ·rw[Zd oM,A.r5]
 ·rw[Zd oM,A.keep m (by simp only[H.Zc]; omega) ho oM m1 m2 m3,g0 _ _ hm]
theorem Z6a (f:Y1 a b c e=true) (M:HE n q a b c e cr md S T V h) (B:Bmp a b c e V D g) {near:Nat} (nl:near<9223372036854775808) {j k t x y w:Nat} (ja:j<a) (fu:∀ i,i<j->Zjt b c (g ((Fj a b c e near+i) % a))) (hk:(Fj a b c e near+j) % a=k) (F:FreeG b c D g k t x y w) (s2:1∈S/\1 ∉ T) (s3:2+e+k * b∈S/\2+e+k * b ∉ T) :
  ∃ h',Zi 115 [.c (.ptr (n+13) 0),.c (.int .i64 (near:Int))] h (.tup [.c (.int .i64 ((2+e+k * b+t:Nat):Int)),.c (.int .i64 0)]) h'/\HE n q a b c e cr md S T (Zjr b e V D g k t x y w) h'/\Kp n q h h':=by
 obtain⟨nq,nx,_⟩:=M.nxO
 obtain⟨_,⟨kn0,hs⟩,⟨dk0,gl⟩,ht⟩:=M.cells
 unfold gdL gdD at gl
 refine Fz ?_
 refine Y0 Hh Tryz.f115 ?_
 have Jf:=Um @f @hs @gl @ht
 iterate 10 (first|refine Goes.Zl Zce ?_|refine Zr Hh (EY Za (Zle Hh)) Zce ?_|apply gS)
 refine Ow fun hA eA=>?_
 have nA:hA.next=h.next+1+1+1:=nxQ eA
 have kA:∀ m,m<h.next->hA.get m=h.get m:=kQ eA
 have a2:hA.get h.next=some (.row 1 [[.ptr (n+13) 0]] false):=by rw[eA]; exact Zf
 have a4:hA.get (h.next+1)=some (.row 1 [[.int .i64 0]] false):=by rw[eA]; exact Zf
 have a5:hA.get (h.next+1+1)=some (.row 1 [[.int .i64 0]] false):=by rw[eA]; exact Zf
 clear eA
 have MA:=M.keep (h2:=hA) oM (fun m hm=>kA m oM)
 obtain⟨hB,pD,k6,MB,kB',pD1,pD2,cD⟩:=Zlr Hh f MA B.des
 have kB:=kB'.2
 obtain⟨_,⟨knB,hsB⟩,⟨dkB,glB⟩,_⟩:=MB.cells
 unfold gdL gdD at glB
 have b2:=(kB h.next oM oM).trans a2
 have b4:=(kB (h.next+1) oM oM).trans a4
 have b5:=(kB (h.next+1+1) oM oM).trans a5
 have Jf:=Ej Jf @a2 @hsB @glB @b2
 iterate 8 (first|refine Goes.Zl Zce ?_|refine Zr Hh (Zp Za k6) Zce ?_|apply gS)
 iterate 2 (first|refine Zr Hh (EY (EY Za (G7 Hh)) (Zqh Hh)) Zce ?_|apply gS)
 refine Ow fun hC eC=>?_
 have nC:hC.next=hB.next+1+1+1:=nxQ eC
 have kC:∀ m,m<hB.next->hC.get m=hB.get m:=kQ eC
 have c7:hC.get hB.next=some (.row 1 [[.slice pD 0 a 3]] false):=by rw[eC]; exact Zf
 have cg:hC.get (hB.next+1)=some (.row 4 [[.int .i64 (a:Int),.int .i64 (b:Int),.int .i64 (c:Int),.int .i64 (e:Int)]] false):=by rw[eC]; exact Zf
 have cn:hC.get (hB.next+1+1)=some (.row 1 [[.int .i64 (near:Int)]] false):=by rw[eC]; exact Zf
 clear eC
 have nB:=MB.nx.2.1
 have MC:=MB.keep (h2:=hC) oM (fun m hm=>kC m oM)
 refine (Z20 Hh (h:=hC) (n:=n) (cr:=cr) (md:=md) (S:=S) (T:=T) f B nl ja fu hk F s2 s3 (p2:=h.next) (p4:=h.next+1) (p5:=h.next+1+1) (p7:=hB.next) (pD:=pD) (pg:=hB.next+1) (pn:=hB.next+1+1) ?_ oM nq oM oM oM cg cn ⟨oM,oM⟩ oM ?_).mono ?_
 ·intro h2 l l1 l2 k2
  refine⟨MC.keep oM (fun m hm=>k2 m oM),?_,?_,?_,?_,(k2 _ oM).trans ((kC _ oM).trans b2),(k2 _ oM).trans ((kC _ oM).trans b4),(k2 _ oM).trans ((kC _ oM).trans b5),(k2 _ oM).trans c7,(k2 _ oM).trans ((kC _ oM).trans cD),?_,?_,?_,?_,?_,?_,?_,?_,?_⟩
  all_goals (first|omega|(simp (decide:=true) only [Zo,reduceIte]))
 ·exact tY
 rintro x ds' ts' h' ⟨rfl,rfl,rfl,gd',r4,r5,MM,nn,kk⟩
 refine⟨_,_,(by have Jf:=Ju @gd' @r4 @r5; exact Z6),rfl,MM.keep ?_ (fun m hm=>?_),?_,fun m hm ho=>?_⟩
 ·simp only[H.Zb,H.Zc,H.Yp]<;>omega
 ·exact Jg
 ·simp only[H.Zb,H.Zc,H.Yp]<;>omega
 ·refine Eq.trans ?_ ((kk m oM ho oM oM oM).trans ((kC m oM).trans ((kB m oM ho.1.1).trans (kA m hm)))); exact Jg
end
end Go.Proofs.YteiljiijagmonaaGreatDoor
