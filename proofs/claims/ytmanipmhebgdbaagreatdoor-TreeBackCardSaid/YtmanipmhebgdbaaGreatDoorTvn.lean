/- The blocks that calls may put. -/
import Derived.Test.YtmanipmhebgdbaaGreatDoorTtk
import Derived.Test.YtmanipmhebgdbaaGreatDoorTbs
set_option maxRecDepth 100000
set_option maxHeartbeats 4000000
set_option linter.unusedSimpArgs false
set_option linter.unusedVariables false
set_option linter.unusedSectionVars false
namespace Go.Proofs.YtmanipmhebgdbaaGreatDoor
open Go.Ev
def chT:Lq:=[0,1,42,43,44,52,53,54,55]
theorem Z9d:∀ k∈chT,k<4096:=by decide
theorem Z0f (m:Nat) (h:m<50):Fs 60 32 40 m=52+m:=by
 show 2+40+m / 50 * 60+(2+8+m % 50)=_
 omega
theorem Z8f:∀ m,m<4->Fs 60 32 40 m∈chT/\2+40+m / fF 60 32 * 60∈chT:=fun m hm=>by
 rw[Z0f m oM]
 have:m / fF 60 32=0:=Nat.div_eq_of_lt (show m<50 by omega)
 rw[this]
 match m,hm with
 | 0,_=>exact⟨by decide,by decide⟩
 | 1,_=>exact⟨by decide,by decide⟩
 | 2,_=>exact⟨by decide,by decide⟩
 | 3,_=>exact⟨by decide,by decide⟩
noncomputable def q7 (p:Lq):Code:=piece p (J8 Tryz.f7)
theorem rs7:Tryz.f7.results.toList=[.tmp 6,.tmp 7]:=rfl
theorem rs21:Tryz.f21.results.toList=[.tmp 4]:=rfl
attribute [go_sem] rs7 rs21
section
variable (Hh:Hearts K Tryz.prog)
include Hh
variable {n q:Nat} {cr:Cr} {md:Int} {V:Nat->Lq} {h:Hq} {s:List UInt8} {u w:Nat} {kq:Int} {R:(Nat->Lq)->Prop}
def Zkw (n:Nat) (md:Int) (V:Nat->Lq) (kq:Int) (u:Nat) (s:List UInt8) (w:Nat) (R:(Nat->Lq)->Prop):Prop:=∀ {q:Nat} {cr:Cr} [Opn cr] {h:Hq},HE n q 2 60 32 40 cr md chT [] V h->∃ h1 V1,Zb 22 [.c (.ptr (n+13) 0),.c (.int .u8 kq),.c (.int .i64 (u:Int))] h (.tup [.c (.int .i64 (w:Int)),.c (.int .i64 0)]) h1/\HE n q 2 60 32 40 cr md chT [] V1 h1/\Kp n q h h1/\∀ {h1:Hq},HE n q 2 60 32 40 cr md chT [] V1 h1->∃ h2 V2,Zb 23 [.c (.ptr (n+13) 0),.c (.int .i64 (u:Int)),.c (.str s),.c (.int .i64 (w:Int))] h1 (.w (.c (.int .i64 0))) h2/\HE n q 2 60 32 40 cr md chT [] V2 h2/\R V2/\Kp n q h1 h2
theorem Z96 [Opn cr] (M:HE n q 2 60 32 40 cr md chT [] V h) (tk:Zkw n md V kq u s w R) {p3 p5 p10 p11:Nat} {z11:C} (g3:h.get p3=some (.row 1 [[.ptr (n+13) 0]] false)) (g5:h.get p5=some (.row 1 [[.int .u8 kq]] false)) (g10:h.get p10=some (.row 3 [spC u s 0] false)) (g11:h.get p11=some (.row 1 [[z11]] false)) (b:∀ p,p=p3\/p=p5\/p=p10\/p=p11->p<h.next/\n+23<=p/\(p<q\/q+9<=p)) (ne:p3≠p11/\p10≠p11) :
  ∃ h' V',Zb 21 [.c (.ptr p3 0),.c (.ptr p5 0),.c (.ptr p10 0),.c (.ptr p11 0)] h (.w (.c (.int .i64 0))) h'/\HE n q 2 60 32 40 cr md chT [] V' h'/\R V'/\h'.get p11=some (.row 1 [[.int .i64 (w:Int)]] false)/\h.next<=h'.next/\∀ m,m<h.next->(m<n+6\/n+23<=m)->(m<q\/q+9<=m)->m≠p11->h'.get m=h.get m:=by
 have b3:=b p3 (.inl rfl)
 have b5:=b p5 (.inr (.inl rfl))
 have b10:=b p10 (.inr (.inr (.inl rfl)))
 have b11:=b p11 (.inr (.inr (.inr rfl)))
 obtain⟨h1,V1,c1,M1,k1,ad⟩:=tk M
 have n1:=k1.1
 have e3:=(k1.2 p3 oM (Vi (.inr b3.2.1) b3.2.2)).trans g3
 have e10:=(k1.2 p10 oM (Vi (.inr b10.2.1) b10.2.2)).trans g10
 have e11:=(k1.2 p11 oM (Vi (.inr b11.2.1) b11.2.2)).trans g11
 obtain⟨hA,eA⟩:∃ hA,hA=h1.put p11 (.row 1 [[.int .i64 (w:Int)]] false):=⟨_,rfl⟩
 have nA:hA.next=h1.next:=by rw[eA,H.Zf]
 have kA:∀ m,m≠p11->hA.get m=h1.get m:=fun m hm=>by rw[eA,Zc hm]
 have A11:hA.get p11=some (.row 1 [[.int .i64 (w:Int)]] false):=by rw[eA,Zz]
 have A3:=(kA p3 ne.1).trans e3
 have A10:=(kA p10 ne.2).trans e10
 obtain⟨h2,V2,c4,M2,r,k2⟩:=ad (M1.Z8k (h2:=hA) oM fun m hm=>kA m oM)
 have n2:=k2.1
 have x0:read1 3 [spC u s 0] 0=some (.int .i64 (u:Int)):=rfl
 have x1:read1 3 [spC u s 0] 1=some (.str s):=rfl
 obtain⟨X,hX⟩:∃ Y,spC u s 0=Y:=⟨_,rfl⟩
 rw[hX] at x0 x1 g10 A10
 obtain⟨v,h',cc,rfl,rfl⟩:∃ v h',Zb 21 [.c (.ptr p3 0),.c (.ptr p5 0),.c (.ptr p10 0),.c (.ptr p11 0)] h v h'/\v=.w (.c (.int .i64 0))/\h'=h2:=by
  refine Ym Hh Tryz.f21 ?_
  have Jf:=Ng @Ba @g3 @g5 @g10 @x0 @x1 @e11
  iterate 4 (first|refine Zn Hh Za Zt ?_|apply gS)
  iterate 6 (first|refine Goes.Zi Zt ?_|refine Zn Hh (Zj Za c1) Zt ?_|apply gS)
  rw[<-eA]
  have Jf:=J4 Jf @A3 @A10 @A11
  iterate 2 (first|refine Zn Hh (Zj Za c4) Zt ?_|apply gS)
  exact⟨_,_,Zd,rfl,rfl⟩
 exact⟨h',V2,cc,M2,r,(k2.2 p11 oM (Vi (.inr b11.2.1) b11.2.2)).trans A11,oM,fun m hm o1 o2 hne=>(k2.2 m oM (Vi o1 o2)).trans ((kA m hne).trans (k1.2 m oM (Vi o1 o2)))⟩
theorem Zod (m0:md≠0) (kk:kq=1\/kq=2) {ch:Lq} (M:HE n q 2 60 32 40 (Cr.cl ch) md [] [] V h) (hch:∀ k∈ch,k∈chT) (n23:n+23<=h.next) {path:List UInt8} {A:List (List UInt8)} {k:Nat} {z:Nat->Nat} (sp:Splits path A) (kA:A.length=k+1) (A4:k<=3) (z0:z 0=1) (st:∀ j s,j<k->A[j]? = some s->O0 n q 2 60 32 40 (Cr.cl ch) md [] [] V (z j) s (z (j+1)) 0) (hs:A[k]? = some s) (hz:z k=u) (ld:O0 n q 2 60 32 40 (Cr.cl ch) md [] [] V u s 0 301) (tk:Zkw n md V kq u s w R) :
  ∃ h' q' V',Zb 7 [.c (.ptr (n+13) 0),.c (.str path),.c (.int .u8 kq)] h (.tup [.c (.int .i64 (w:Int)),.c (.int .i64 0)]) h'/\HE n q' 2 60 32 40 (Cr.cl chT) md [] [] V' h'/\R V'/\(h.next<=h'.next/\h.next<=q'+5)/\∀ m,m<h.next->(m<n+6\/n+23<=m)->h'.get m=h.get m:=by
 have f:=Vy
 subst hz
 obtain⟨nq,nx,n0⟩:=M.nx
 obtain⟨st0,⟨kn,hs0⟩,⟨dk,gl⟩,ht⟩:=M.cells
 unfold gdL gdD at gl
 have dm:(md != 0)=true:=Nn m0
 have ek:(kq != 1&&kq != 2)=false:=by rcases kk with rfl|rfl<;>rfl
 have xl1:(spC (z k) s 0).length=3:=rfl
 obtain⟨v,h',cc,rfl,q',V',M',T',nn,kk⟩:∃ v h',Zb 7 [.c (.ptr (n+13) 0),.c (.str path),.c (.int .u8 kq)] h v h'/\v=.tup [.c (.int .i64 (w:Int)),.c (.int .i64 0)]/\∃ q' V',HE n q' 2 60 32 40 (Cr.cl chT) md [] [] V' h'/\R V'/\(h.next<=h'.next/\h.next<=q'+5)/\∀ m,m<h.next->(m<n+6\/n+23<=m)->h'.get m=h.get m:=by
  obtain⟨kv,hkv⟩:∃ kv,kv=kq:=⟨_,rfl⟩
  rcases kk with rfl|rfl
  all_goals
   refine Ym Hh Tryz.f7 ?_
   have Jf:=L8 @Ba @f @hs0 @gl @dm @xl1
   iterate 13 (first|refine Goes.Zi Yd ?_|refine Zn Hh (EY Za (Qa Hh)) Yd ?_|apply gS)
   refine Jq fun hA eA=>?_
   have nA:hA.next=h.next+2:=nxQ eA
   have kA':∀ m,m<h.next->hA.get m=h.get m:=fun m hm=>by rw[eA]; exact Yn
   have a3:hA.get h.next=some (.row 1 [[.ptr (n+13) 0]] false):=by rw[eA]; exact Yi
   have a5:hA.get (h.next+1)=some (.row 1 [[.int .u8 kv]] false):=by rw[eA,hkv]; exact Yi
   clear eA
   subst hkv
   have MA:=M.keep (h2:=hA) oM fun m hm=>kA' m oM
   obtain⟨h1,p1,c5,b1,b2,g1,k1⟩:=sp hA oM
   rw[kA] at c5
   have M1:=MA.keep (h2:=h1) oM fun m hm=>k1 m oM
   have a31:=(k1 h.next oM).trans a3
   have a51:=(k1 (h.next+1) oM).trans a5
   obtain⟨h2,c8,M2,k2⟩:=Ya0 Hh (A:=A) (k:=k) (z:=z) M1 g1 ⟨oM,oM⟩ kA A4 z0 st hs ld
   have n2:=k2.1
   have a32:=(k2.2 h.next oM oM).trans a31
   have a52:=(k2.2 (h.next+1) oM oM).trans a51
   obtain⟨X1,hX1⟩:∃ Y,spC (z k) s 0=Y:=⟨_,rfl⟩
   rw[hX1] at c8 xl1
   have Jf:=Yp @Ba @f @hs0 @gl @dm @xl1 @a3 @a31 @a32
   iterate 7 (first|refine Goes.Zi Yd ?_|refine Zn Hh (Zj Za c5) Yd ?_|apply gS)
   iterate 9 (first|refine Goes.Zi Yd ?_|refine Zn Hh (Zj Za c8) Yd ?_|apply gS)
   refine Jq fun hC eC=>?_
   have nC:hC.next=h2.next+2:=nxQ eC
   have kC:∀ m,m<h2.next->hC.get m=h2.get m:=kQ eC
   have C10:hC.get h2.next=some (.row 3 [X1] false):=by rw[eC]; exact Zt
   have C11:hC.get (h2.next+1)=some (.row 1 [[.int .i64 0]] false):=by rw[eC]; exact Zt
   clear eC
   have MC:=M2.keep (h2:=hC) oM fun m hm=>kC m (by have:=M2.nx; omega)
   have C3:=(kC h.next oM).trans a32
   have C5:=(kC (h.next+1) oM).trans a52
   obtain⟨h4,h5,q',V',c12,M5,⟨T5,r5,n5,u5⟩,nn5,k5⟩:=Zfb Hh f (R:=fun V' h4=>R V'/\h4.get (h2.next+1)=some (.row 1 [[.int .i64 (w:Int)]] false)/\hC.next<=h4.next/\∀ m,m<hC.next->(m<n+6\/n+23<=m)->m≠h2.next+1->h4.get m=hC.get m) MC oM hch Z9d dM oM (F:=21) (first:=[]) (caps:=[some (h.next,0),some (h.next+1,0),some (h2.next,0),some (h2.next+1,0)]) (fun u1 Mu nu ku=>by
    subst hX1
    obtain⟨u2,V2,cc,Mv,Tv,v5,nv,kv⟩:=Z96 Hh Mu tk (p3:=h.next) (p5:=h.next+1) (p10:=h2.next) (p11:=h2.next+1) ((ku _ oM oM).trans C3) ((ku _ oM oM).trans C5) ((ku _ oM oM).trans C10) ((ku _ oM oM).trans C11) (by rintro p (rfl|rfl|rfl|rfl)<;>omega) ⟨oM,oM⟩
    exact⟨u2,V2,cc,Mv,nv,⟨kv _ oM oM oM oM,kv _ oM oM oM oM⟩,Tv,v5,oM,fun m hm ho hne=>(kv m oM ho oM hne).trans (ku m hm ho)⟩)
   have F11:=(k5 (h2.next+1) oM oM oM).trans r5
   have Jf:=Jh @Ba @f (Yp @hs0 @gl @dm @xl1 @a3 @a31 @a32 @C3 @F11)
   iterate 9 (first|refine Goes.Zi Yd ?_|refine Zn Hh (Zj Za c12) Yd ?_|apply gS)
   refine⟨_,_,Yi,rfl,q',V',M5,T5,⟨oM,oM⟩,fun m hm ho=>?_⟩
   rw[k5 m oM ho oM,u5 m oM ho oM,kC m oM,k2.2 m oM oM,k1 m oM,kA' m hm]
 exact⟨h',q',V',cc,M',T',nn,kk⟩
end
open Go.Ev
theorem Z8g {a b c e j g:Nat} {V:Nat->Lq} (jl:j<a * c) (gb:g<4294967296) (gz:gI a b c e V ((j+1:Nat):Int)=(Rm 2 1 g 0 (fun _=>0) 0,0)):DirS a b c e V j g (fun _=>0) [] [] :=
 ⟨gz,jl,gb,fun i _=>by omega,fun _ _ _=>rfl,⟨by simp,rfl,fun i z hz=>by simp at hz⟩,List.nodup_nil,fun z hz=>by simp at hz⟩
theorem Z71:gI 2 60 32 40 V4 1=(Rm 2 1 1 0 (fun _=>0) 0,0):=kR
theorem Ydl:∀ k,k<2->V4 (2+40+k * 60)=Zb5 (gG 60 32 0 k)
 | 0,_=>(by kernel_rfl:V4 42=Zb5 (gG 60 32 0 0))
 | 1,_=>(by kernel_rfl:V4 102=Zb5 (gG 60 32 0 1))
 | n+2,h=>by omega
theorem alT:AlG 2 60 32 40 (iw0 32) V4 0:=⟨Ydl,⟨kR,kR,Ry⟩,Zmq (Z1o oM)⟩
theorem tst0:TSt 2 60 32 40 (iw0 32) V4 0 [0] (fun _=>0) (fun _ _=>0) :=
 ⟨alT,fun _=>1,fun _ _=>0,fun _=>[],fun _=>[],fun j hj=>by
  obtain rfl:=List.mem_singleton.1 hj
  exact⟨Z8g oM (show 1<4294967296 by omega) Z71,DN.nil,rfl,fun z hz=>by cases hz⟩,fun j hj i hi ne z hz=>by cases hz⟩
end Go.Proofs.YtmanipmhebgdbaaGreatDoor
