/- bits.Clear of a bit that is set. -/
import Derived.Test.YteiljiijagmonaaGreatDoorBta
set_option maxRecDepth 100000
set_option maxHeartbeats 4000000
set_option linter.unusedSimpArgs false
set_option linter.unusedVariables false
set_option linter.unusedSectionVars false
namespace Go.Proofs.YteiljiijagmonaaGreatDoor
open Go.Ev
theorem rs139:Tryz.f139.results.toList=[.tmp 4]:=rfl
attribute [go_sem] rs139
theorem andn8:∀ b0 b1 b2 b3 b4 b5 b6 b7:Bool,∀ j:Fin 8,Nat.land (b8 b0 b1 b2 b3 b4 b5 b6 b7) (255 - 2 ^ j.1)=b8 (b0&&!decide (j.1=0)) (b1&&!decide (j.1=1)) (b2&&!decide (j.1=2)) (b3&&!decide (j.1=3)) (b4&&!decide (j.1=4)) (b5&&!decide (j.1=5)) (b6&&!decide (j.1=6)) (b7&&!decide (j.1=7)):=by decide +kernel
def Zck (g:Nat->Bool) (i:Nat):Nat->Bool:=fun j=>g j&&!decide (j=i)
theorem Z21 (g:Nat->Bool) (i:Nat):Nat.land (byB g (i / 8)) (255 - 2 ^ (i % 8))=byB (Zck g i) (i / 8):=by
 have:=andn8 (g (8 * (i / 8))) (g (8 * (i / 8)+1)) (g (8 * (i / 8)+2)) (g (8 * (i / 8)+3)) (g (8 * (i / 8)+4)) (g (8 * (i / 8)+5)) (g (8 * (i / 8)+6)) (g (8 * (i / 8)+7)) ⟨i % 8,oM⟩
 refine this.trans ?_
 have e:=Nat.div_add_mod i 8
 unfold byB Zck
 have q:∀ k,k<8->decide (i % 8=k)=decide (8 * (i / 8)+k=i):=fun k hk=>by
  rw[decide_eq_decide]
  omega
 have q0:=q 0 oM
 rw[Nat.add_zero] at q0
 simp only[q0,q 1 oM,q 2 oM,q 3 oM,q 4 oM,q 5 oM,q 6 oM,q 7 oM]
theorem Zjd (g:Nat->Bool) (i t:Nat) (h:t≠i / 8):byB (Zck g i) t=byB g t:=by
 unfold byB Zck
 have q:∀ k,k<8->decide (8 * t+k=i)=false:=fun k hk=>decide_eq_false oM
 have q0:=q 0 oM
 rw[Nat.add_zero] at q0
 simp only[q0,q 1 oM,q 2 oM,q 3 oM,q 4 oM,q 5 oM,q 6 oM,q 7 oM,Bool.not_false,Bool.and_true]
theorem Zwn (g:Nat->Bool) (i:Nat) (hi:i<2048):(J6 g).set (i / 8) (.int .u8 ((Nat.land (byB g (i / 8)) (255 - 2 ^ (i % 8)):Nat):Int))=J6 (Zck g i):=by
 refine List.ext_getElem (by simp [J6]) fun t h1 h2=>?_
 rw[List.getElem_set]
 simp only[J6,List.getElem_map,List.getElem_range]
 by_cases e:i / 8=t
 ·rw[if_pos e,Z21,e]
 ·rw[if_neg e,Zjd _ _ _ (fun x=>e x.symm)]
section
variable (Hh:Hearts K Tryz.prog)
include Hh
theorem Z28 (h:Hq) (b i:Nat) (g:Nat->Bool) (hi:i<2048) (hg:g i=true) (hb:h.get b=some (.row 256 [J6 g] false)):Zi 139 [.c (.ptr b 0),.c (.int .i64 i)] h (.w (.c (.bool true))) (h.put b (.row 256 [J6 (Zck g i)] false)):=by
 have c1:=isOk Hh h i hi
 have c2:=Zmo Hh h i
 have q1:R6 .i64 (i:Int) 8=some (.int .i64 ((i / 8:Nat):Int)):=Nj (b:=8) oM oM
 have rd:read1 256 [J6 g] (i / 8)=some (.int .u8 ((byB g (i / 8):Nat):Int)):=by
  unfold read1
  rw[Nat.div_eq_of_lt oM,Nat.mod_eq_of_lt oM,List.getElem?_cons_zero]
  exact Zau g _ oM
 have wr:Z5 256 [J6 g] (i / 8) [.int .u8 ((Nat.land (byB g (i / 8)) (255 - 2 ^ (i % 8)):Nat):Int)]=some [J6 (Zck g i)]:=by
  simp only[Z5]
  rw[Nat.div_eq_of_lt oM,Nat.mod_eq_of_lt oM,List.getElem?_cons_zero]
  simp only[Eb]
  rw[Zci oM,cond_true,Zwn g i hi]
  rfl
 have p1:0<2 ^ (i % 8):=Nat.pow_pos oM
 have l1:Bc .u8 Nat.land ((byB g (i / 8):Nat):Int) ((2 ^ (i % 8):Nat):Int)=.int .u8 ((2 ^ (i % 8):Nat):Int):=by
  rw[Zjw (Lh _ _) (R7 _) (land256 (Lh _ _)),Zcj,hg]
  rfl
 have l2:Bc .u8 (fun a b=>Nat.land a (255 - b)) ((byB g (i / 8):Nat):Int) ((2 ^ (i % 8):Nat):Int)=.int .u8 ((Nat.land (byB g (i / 8)) (255 - 2 ^ (i % 8)):Nat):Int):=Zjw (f:=fun a b=>Nat.land a (255 - b)) (Lh _ _) (R7 _) (land256 (Lh _ _))
 have e1:(((2 ^ (i % 8):Nat):Int) == 0)=false:=U7 (by exact_mod_cast (Nat.pos_iff_ne_zero.1 p1))
 refine fnG Hh Tryz.f139 ?_
 have Jf:=El @q1 @rd @wr @l1 @l2 @hb @e1
 iterate 4 (first|apply Zu|refine Zr Hh Za Zn ?_)
 iterate 4 (first|apply Zu|apply Ye|refine Goes.Zl Zn ?_|refine G6 Hh (Zp (Zp Za c1) c2) Tc ?_)
 iterate 4 (first|apply Zu|apply Yc|refine Zr Hh (Zp Za c2) Zn ?_|refine G6 Hh (Zp Za c2) Tc ?_)
 exact Zn
end
open Go.Ev
theorem rs78:Tryz.f78.results.toList=[.tmp 4]:=rfl
theorem rs141:Tryz.f141.results.toList=[]:=rfl
attribute [go_sem] rs78 rs141
theorem Zw9 {a b c e k i:Nat} (f:Y1 a b c e=true) (ka:k<a) (i0:2+c / 4<=i) (ib:i<b):Oo a b c e (2+e+k * b+i)=(7,k,i):=by
 obtain⟨g1,g2,g3,g4,g5,g6,g7,g8,g9,g10,g11⟩:=Ya f
 have st:=N8 (b:=b) ka
 have ex:2+e+k * b+i - 2 - e=k * b+i:=oM
 have e1:(k * b+i) % b=i:=by rw[Nat.mul_comm,Nat.mul_add_mod,Nat.mod_eq_of_lt ib]
 have e2:(k * b+i) / b=k:=by rw[Nat.mul_comm,Nat.mul_add_div oM,Nat.div_eq_of_lt ib,Nat.add_zero]
 unfold Oo
 rw[if_neg oM,if_neg oM,if_neg oM,if_neg oM,ex,e1,e2,if_neg oM,if_neg oM,if_neg oM]
section
variable (Hh:Hearts K Tryz.prog)
include Hh
variable {n q a b c e:Nat} {md:Int} {h:Hq} {S Ch F0 R0:Lq} {V:Nat->Lq} {x r:Int} {sh:Nat}
theorem Z2n {p k:Nat} {D:List Oq} {x y w:Nat} {h:Hq} (hp:h.get p=some (.row 3 (D.map U1) false)) (hk:D[k]? = some (x,y,w)) (x2:x<4096):Zi 141 [.c (.ptr p (k * 3))] h (.tup []) (h.put p (.row 3 ((D.set k (x+1,y,w)).map U1) false)):=by
 have hr:(D.map U1)[k]? = some [.int .i64 (x:Int),.int .i64 (y:Int),.int .i64 (w:Int)]:=by rw[List.getElem?_map,hk]; rfl
 have r1:read1 3 (D.map U1) (k * 3)=some (.int .i64 (x:Int)):=Mr (sz:=3) (j:=0) oM hr
 have w1:Z5 3 (D.map U1) (k * 3) [.int .i64 ((x:Int)+1)]=some ((D.map U1).set k [.int .i64 ((x:Int)+1),.int .i64 (y:Int),.int .i64 (w:Int)]):=Zbu (j:=0) hr rfl oM
 have fin:(D.map U1).set k [.int .i64 ((x:Int)+1),.int .i64 (y:Int),.int .i64 (w:Int)]=(D.set k (x+1,y,w)).map U1:=by
  rw[List.map_set]
  rfl
 obtain⟨Z,hZ⟩:=xzE (D.map U1)
 rw[hZ] at hp r1 w1 fin
 refine fnG Hh Tryz.f141 ?_
 have Jf:=Um @hp @r1 @w1 @Nat.add_zero
 repeat (first|refine Zr Hh Za Zn ?_)
 have Jf:=@fin; exact Zn
theorem Zyj (f:Y1 a b c e=true) (M:HE n q a b c e ⟨x,r,true,Ch,F0,R0,sh⟩ md S [] V h) {k:Nat} (ka:k<a) (s2:1∈S) (s3:2+e+k * b∈S) {nb:Lq} (nbl:nb.length=256)
  {F pD:Nat} {D D':List Oq} (hp:h.get pD=some (.row 3 (D.map U1) false)) (Dl:D.length=a) (Dl':D'.length=a) (Dm:D'.all (Qr (b - 2 - c / 4) c)=true) (pl:pD<h.next) (p32:q+9<=pD)
  (hF:∀ h2,h2.get pD=some (.row 3 (D.map U1) false)->Zi F [.c (.ptr pD (k * 3))] h2 (.tup []) (h2.put pD (.row 3 (D'.map U1) false))) :
  ∃ h',Zi 140 [.c (.ptr (n+13) 0),.c (.int .i64 (k:Int)),.g (pgL nb),.c (.slice pD 0 a 3),.c (.fn F [] [])] h (.w (.c (.int .i64 0))) h'/\HE n q a b c e ⟨x,r,true,Ch,F0,R0,sh⟩ md S [] (Df (Df V (2+e+k * b) nb) 1 (Zgw D')) h'/\h.next<=h'.next/\∀ m,m<h.next->Ez n q m->m≠pD->h'.get m=h.get m:=by
 obtain⟨g1,g2,g3,g4,g5,g6,g7,g8,g9,g10,g11⟩:=Ya f
 have st:=N8 (b:=b) ka
 obtain⟨zb,hb⟩:∃ z,2+e+k * b=z:=⟨_,rfl⟩
 rw[hb] at s3 ⊢
 have zbl:zb<2+e+a * b:=oM
 have ob:=F7 (z:=zb) (Ya f) oM zbl
 obtain⟨nq,nx,n0⟩:=M.nx
 have bl:(pgL nb).length=256:=by rw[Oz,nbl]
 have hB1:=fun {h:Hq} (M:HE n q a b c e ⟨x,r,true,Ch,F0,R0,sh⟩ md S [] V h)=>M.Z7v Hh f ob zbl nbl s3
 have hB2:=fun {V:Nat->Lq} {h:Hq} (M:HE n q a b c e ⟨x,r,true,Ch,F0,R0,sh⟩ md S [] V h)=>M.Z7v Hh f (z:=1) (Zc5 a b c e) oM (Zco D') s2
 obtain⟨mB,hmB⟩:∃ x,pgL nb=x:=⟨_,rfl⟩
 obtain⟨Y,hY⟩:=xzE (pgL (Zgw D'))
 have Yl:Y.length=256:=by rw[<-hY,Oz,Zco]
 have hY':pgL (Et (Lj D' 0 Bg))=Y:=hY
 rw[hmB] at bl ⊢
 simp only[hmB] at hB1
 simp only[hY] at hB2
 refine Fz ?_
 refine Y0 Hh Tryz.f140 ?_
 have Jf:=Um @f @hb @bl @Nat.zero_add
 iterate 3 (first|apply Zu|refine Zr Hh Za Gt ?_)
 refine Ow fun hA eA=>?_
 have nA:hA.next=h.next+1:=nxQ eA
 have kA:∀ m,m<h.next->hA.get m=h.get m:=kQ eA
 have bA:hA.get h.next=some (.row 256 [mB] false):=by rw[eA]; exact Z0
 clear eA
 have MA:=M.keep (h2:=hA) oM (fun m hm=>kA m oM)
 obtain⟨_,⟨knA,hsA⟩,⟨dkA,glA⟩,_⟩:=MA.cells
 unfold gdL gdD at glA
 obtain⟨hB,c1,MB,nB,kB⟩:=hB1 MA
 have Jf:=Ej Jf @nA @bA @hsA @glA
 iterate 3 (first|apply Zu|refine Zr Hh (EY (EY Za (G7 Hh)) (Ro Hh)) Gt ?_)
 iterate 6 (first|apply Zu|apply Ye|refine Goes.Zl Gt ?_|refine Zr Hh (Zp Za c1) Gt ?_)
 have pB:=(kB pD oM ⟨oM,oM⟩).trans ((kA _ pl).trans hp)
 have c2:=hF hB pB
 iterate 2 (first|apply Zu|refine Zr Hh (Zp Za c2) Gt ?_)
 refine Ow fun hC eC=>?_
 have nC:hC.next=hB.next:=by rw[eC,H.Zb]
 have kC:∀ m,m<h.next+1->Ez n q m->m≠pD->hC.get m=hA.get m:=fun m hm ho hne=>by rw[eC,Zd hne]; exact kB m oM ho
 have pC:hC.get pD=some (.row 3 (D'.map U1) false):=by rw[eC,Zx]
 have MC:=MB.keep (h2:=hC) (by rw[eC,H.Zb]; omega) (fun m hm=>by rw[eC,Zd oM])
 clear eC
 obtain⟨stC,⟨knC,hsC⟩,⟨dkC,glC⟩,_⟩:=MC.cells
 unfold gdL gdD at glC
 have Jf:=Jl Jf (Yw @nC @pC @hsC @glC @stC @Dl' @Dm @hY' @Yl)
 iterate 7 (first|apply Zu|apply Ye|refine Goes.Zl Gt ?_|refine Zr Hh (EY (EY Za (G7 Hh)) (Zu8 Hh)) Gt ?_)
 refine Ow fun hD eD=>?_
 have nD:hD.next=hB.next+1:=by rw[eD]; simp only[H.Zb,H.Zc,nC]
 have kD:∀ m,m<h.next+1->Ez n q m->m≠pD->hD.get m=hA.get m:=fun m hm ho hne=>by rw[eD]; refine Eq.trans ?_ (kC m hm ho hne); exact Jg
 have bD:hD.get hB.next=some (.row 256 [Y] false):=by rw[eD,<-nC]; exact Z0
 have MD:=MC.keep (h2:=hD) oM (fun m hm=>by rw[eD]; have:=MC.nx; exact Jg)
 clear eD
 obtain⟨hE,c3,ME,nE,kE⟩:=hB2 MD
 have Jf:=Jl Jf @bD
 iterate 2 (first|apply Yc|refine Zr Hh (Zp Za c3) Gt ?_)
 exact⟨_,_,Y6,rfl,ME,oM,fun m hm ho hne=>(kE m oM ho).trans ((kD m oM ho hne).trans (kA m hm))⟩
end
def Zjg (b e:Nat) (V:Nat->Lq) (D:List Oq) (g:Nat->Nat->Bool) (k i x y w:Nat):Nat->Lq:=Df (Df V (2+e+k * b) (Zfm (Zck (g k) i))) 1 (Zgw (D.set k (x+1,y,w)))
section
variable (Hh:Hearts K Tryz.prog)
include Hh
variable {n q a b c e:Nat} {md:Int} {h:Hq} {S Ch F0 R0:Lq} {V:Nat->Lq} {x r:Int} {sh:Nat} {D:List Oq} {g:Nat->Nat->Bool}
theorem Ztz (f:Y1 a b c e=true) (M:HE n q a b c e ⟨x,r,true,Ch,F0,R0,sh⟩ md S [] V h) (B:Bmp a b c e V D g) {k i X Y W':Nat} (ka:k<a) (i0:2+c / 4<=i) (ib:i<b) (gi:g k i=true) (hk:D[k]? = some (X,Y,W')) (X1:X+1<=b - 2 - c / 4) (s2:1∈S) (s3:2+e+k * b∈S) (r0:0<r) (r1:r<2048) (zF:2+e+k * b+i∈F0) (zR:2+e+k * b+i∈Ch++S->2+e+k * b+i∈R0) :
  ∃ h' ns,Zi 78 [.c (.ptr (n+13) 0),.c (.int .i64 ((2+e+k * b+i:Nat):Int))] h (.w (.c (.int .i64 0))) h'/\ns.length=256/\HE n q a b c e ⟨x,r - 1,true,Ch,F0,R0,sh⟩ md S [] (Df (Zjg b e V D g k i X Y W') (2+e+k * b+i) ns) h'/\Kf n q h h':=by
 obtain⟨g1,g2,g3,g4,g5,g6,g7,g8,g9,g10,g11⟩:=Ya f
 have st:=N8 (b:=b) ka
 have bm:=B.bm k ka
 have Dl:=B.des.2.2
 obtain⟨nq,nx,n0⟩:=M.nx
 have mx:=Tv (List.all_eq_true.1 B.may _ (List.mem_of_getElem? hk))
 simp only at mx
 have Dm:(D.set k (X+1,Y,W')).all (Qr (b - 2 - c / 4) c)=true:=by
  rw[List.all_eq_true]
  intro z hz
  rcases List.mem_or_eq_of_mem_set hz with h1|h1
  ·exact List.all_eq_true.1 B.may z h1
  ·rw[h1]
   unfold Qr
   rw[Em (by show X+1<=_; omega),Em (by show Y<=_; omega),Em (by show W'+Y<=_; omega)]
   rfl
 unfold Zjg
 obtain⟨D',hD'⟩:=xzE (D.set k (X+1,Y,W'))
 have Dl':D'.length=a:=by rw[<-hD',List.length_set,Dl]
 rw[hD'] at Dm ⊢
 have wd:=Zw9 f ka i0 ib
 have gw:=Zsi Hh (Ya f) (b:=2+e+k * b+i)
 rw[wd] at gw
 have gw:=fun h=>gw h oM
 obtain⟨zb,hb⟩:∃ z,2+e+k * b=z:=⟨_,rfl⟩
 rw[hb] at bm s3 gw zF zR ⊢
 have zbl:zb<2+e+a * b:=oM
 have ob:=F7 (z:=zb) (Ya f) oM zbl
 have oz:=F7 (z:=zb+i) (Ya f) oM oM
 have bl1:(J6 (g k)).length=256:=Eb _
 have ml:(J6 (Zck (g k) i)).length=256:=Eb _
 have hDE:=fun {h:Hq} (M:HE n q a b c e ⟨x,r,true,Ch,F0,R0,sh⟩ md S [] V h)=>Zlr Hh f M B.des
 have hGE:=fun {h:Hq} (M:HE n q a b c e ⟨x,r,true,Ch,F0,R0,sh⟩ md S [] V h)=>M.get f ob zbl
 simp only[bm,<-Zgn] at hGE
 have hC:=fun {h:Hq} {pD:Nat} (M:HE n q a b c e ⟨x,r,true,Ch,F0,R0,sh⟩ md S [] V h) (hp:h.get pD=some (.row 3 (D.map U1) false)) (pl:pD<h.next) (bD:q+9<=pD)=>Zyj Hh f M ka s2 (by rw[hb]; exact s3) (Zoc (Zck (g k) i)) (F:=141) hp Dl Dl' Dm pl bD (fun h2 hp2=>by
  have:=Z2n Hh hp2 hk oM
  rw[hD'] at this
  exact this)
 rw[hb] at hC
 simp only[<-Zgn] at hC
 have hF:=fun {V:Nat->Lq} {h:Hq} (M:HE n q a b c e ⟨x,r,true,Ch,F0,R0,sh⟩ md S [] V h)=>M.forget Hh f (z:=zb+i) oz oM r0 r1 zF zR
 obtain⟨B',hB⟩:=xzE (J6 (g k))
 obtain⟨N',hN⟩:=xzE (J6 (Zck (g k) i))
 rw[hB] at bl1
 rw[hN] at ml
 simp only[hB] at hGE
 simp only[hN] at hC
 obtain⟨_,⟨kn0,hs0⟩,⟨dk0,gl0⟩,ht0⟩:=M.cells
 unfold gdL gdD at gl0
 have ht0:h.get (n+20)=some (.row 13 [txL ⟨n+15,n+16,n+17,n+19,1,true,x,r,.map (q+2),.map (q+6+sh),.map (q+7+sh),.map (q+8+sh),.ptr (q+5) 0⟩] false):=ht0
 have ez:((zb+i:Nat):Int)=(zb:Int)+(i:Int):=rfl
 obtain⟨zz,hzz⟩:=xzE (zb+i)
 rw[hzz] at gw hF oz ⊢
 obtain⟨v,h',cc,rfl,ns,nl,MZ,kz⟩:∃ v h',Zi 78 [.c (.ptr (n+13) 0),.c (.int .i64 (zz:Int))] h v h'/\v=.w (.c (.int .i64 0))/\∃ ns,ns.length=256/\HE n q a b c e ⟨x,r - 1,true,Ch,F0,R0,sh⟩ md S [] (Df (Df (Df V zb (Zfm (Zck (g k) i))) 1 (Zgw D')) zz ns) h'/\Kf n q h h':=by
  refine Y0 Hh Tryz.f78 ?_
  have Jf:=Yw @f @hs0 @gl0 @ht0 @hb @bl1 @ml @Nat.zero_add @Nat.add_zero
  iterate 10 (first|apply Zu|apply Ye|refine Goes.Zl J3 ?_|refine Zr Hh (EY Za (Zle Hh)) J3 ?_)
  have cw:=gw h
  iterate 7 (first|apply Zu|apply Ye|refine Goes.Zl J3 ?_|refine Zr Hh (Zp (EY Za (G7 Hh)) cw) J3 ?_)
  obtain⟨hD1,pD,cd,MD,kD,d1,d2,d3⟩:=hDE M
  obtain⟨_,⟨kn1,hs1⟩,⟨dk1,gl1⟩,_⟩:=MD.cells
  unfold gdL gdD at gl1
  iterate 7 (first|apply Zu|apply Ye|refine Goes.Zl J3 ?_|refine Zr Hh (Zp Za cd) J3 ?_)
  have Jf:=Ju Jf @hs1 @gl1
  iterate 2 (first|apply Zu|refine Zr Hh (EY (EY Za (G7 Hh)) (Ro Hh)) J3 ?_)
  obtain⟨hG1,e1,MG,nG,kG⟩:=hGE MD
  have cg:=Eu Hh e1
  iterate 8 (first|apply Zu|apply Ye|refine Goes.Zl J3 ?_|refine Zr Hh (Zp Za cg) J3 ?_)
  refine Ow fun hA eA=>?_
  have nA:hA.next=hD1.next+1:=by rw[eA]; simp only[H.Zb,H.Zc,nG]
  have kA:∀ m,m<hD1.next->m≠n+6->hA.get m=hD1.get m:=fun m hm hne=>by rw[eA]; refine Eq.trans ?_ (kG m hm hne); exact Jg
  have bA:hA.get hD1.next=some (.row 256 [B'] false):=by rw[eA,<-nG]; exact Z0
  have MA:=MG.keep (h2:=hA) oM (fun m hm=>by rw[eA]; exact Jg)
  clear eA
  have bA':=bA
  rw[<-hB] at bA'
  have cl:=Z28 Hh hA hD1.next i (g k) oM gi bA'
  rw[hN] at cl
  have Jf:=Jl Jf @nG
  iterate 5 (first|apply Zu|apply Ye|refine Goes.Zl J3 ?_|refine Zr Hh (Zp Za cl) J3 ?_)
  refine Ow fun hB1 eB=>?_
  have nB:hB1.next=hA.next:=by rw[eB,H.Zb]
  have kB:∀ m,m<hD1.next->hB1.get m=hA.get m:=fun m hm=>by rw[eB,Zd oM]
  have bB:hB1.get hD1.next=some (.row 256 [N'] false):=by rw[eB,Zx]
  have MB:=MA.keep (h2:=hB1) oM (fun m hm=>kB m (by have:=MD.nx; omega))
  clear eB
  have dB:=((kB pD d2).trans (kA pD d2 oM)).trans d3
  obtain⟨hE,cc,ME,nE,kE⟩:=hC MB dB oM oM
  have Jf:=Jl Jf @bB
  iterate 6 (first|apply Zu|apply Ye|refine Goes.Zl J3 ?_|refine Zr Hh (Zp Za cc) J3 ?_)
  obtain⟨hF1,ns,cf,nl,MF,kF⟩:=hF ME
  iterate 2 (first|apply Yc|refine Zr Hh (Zp Za cf) J3 ?_)
  refine⟨_,_,Y6,rfl,ns,nl,MF,?_,fun m hm ho=>?_⟩
  ·have:=kF.1; have:=kD.1; omega
  ·have nn:=kD.1
   rw[kF.2 m oM ho,kE m oM ho oM,kB m oM,kA m oM (by have:=ho.1; omega),kD.2 m hm (by have:=ho.1; omega)]
 exact⟨h',ns,cc,nl,MZ,kz⟩
end
end Go.Proofs.YteiljiijagmonaaGreatDoor
