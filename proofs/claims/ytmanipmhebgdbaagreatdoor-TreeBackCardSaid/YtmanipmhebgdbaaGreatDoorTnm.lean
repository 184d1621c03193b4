/- dirs: write; what Add finds as it goes over a directory. -/
import Derived.Test.YtmanipmhebgdbaaGreatDoorTrb
set_option maxRecDepth 100000
set_option maxHeartbeats 4000000
set_option linter.unusedSimpArgs false
set_option linter.unusedVariables false
set_option linter.unusedSectionVars false
namespace Go.Proofs.YtmanipmhebgdbaaGreatDoor
open Go.Ev
noncomputable def q23 (p:Lq):Code:=piece p (J8 Tryz.f23)
theorem Zkp:q23 [1,1,1,1,1,1,0,1,2]=.rangeFunc (.tmp 42) #[43,44] (q23 [1,1,1,1,1,1,0,1,2,5]) (q23 [1,1,1,1,1,1,0,1,2,6]):=kR
theorem Zi7:q23 [1,1,1,1,1,1,0,1,2,5]=.seq (q23 [1,1,1,1,1,1,0,1,2,5,0]) (q23 [1,1,1,1,1,1,0,1,2,5,1]):=kR
theorem Zi8:q23 [1,1,1,1,1,1,0,1,2,6]=.block 1 (q23 [1,1,1,1,1,1,0,1,2,6,2]):=kR
theorem rs23:Tryz.f23.results.toList=[.tmp 8]:=rfl
theorem rs72:Tryz.f72.results.toList=[.tmp 10]:=rfl
attribute [go_sem] rs23 rs72
def thF (s:List UInt8) (A:List (Nat × Sl)):Bool:=A.any fun p=>!Nat.beq p.2.1 0&&Uk p.2.2 s
def frF (bs:Lq):List (Nat × Sl)->Nat
 | []=>0
 | (i,x) :: r=>if x.1=0 then bs.getD i 0 else frF bs r
theorem Z27 (s:List UInt8) (A:List (Nat × Sl)) (i:Nat) (x:Sl):thF s (A++[(i,x)])=(thF s A || (!Nat.beq x.1 0&&Uk x.2 s)):=by
 unfold thF
 rw[List.any_append]
 simp
theorem Zqd {bs:Lq} {i:Nat} {x:Sl}:∀ {A:List (Nat × Sl)},(∀ p∈A,bs.getD p.1 0≠0)->frF bs (A++[(i,x)])=if frF bs A=0/\x.1=0 then bs.getD i 0 else frF bs A
 | [],_=>by
  show (if x.1=0 then bs.getD i 0 else 0)=if (0:Nat)=0/\x.1=0 then bs.getD i 0 else 0
  simp
 | (j,y) :: r,h=>by
  have ih:=Zqd (bs:=bs) (i:=i) (x:=x) (A:=r) fun p hp=>h p (List.mem_cons_of_mem _ hp)
  have e:frF bs ((j,y) :: r)=if y.1=0 then bs.getD j 0 else frF bs r:=rfl
  have hj:=h (j,y) (List.mem_cons_self ..)
  show (if y.1=0 then bs.getD j 0 else frF bs (r++[(i,x)]))=_
  rw[ih,e]
  by_cases w:y.1=0
  ·simp only[if_pos w]
   rw[if_neg fun q=>hj q.1]
  ·simp only[if_neg w]
section
variable (Hh:Hearts K Tryz.prog)
include Hh
variable {n q a b c e:Nat} {cr:Cr} [Opn cr] {md:Int} {S T:Lq} {V:Nat->Lq} {h:Hq} {y:List C} {P:Nat->Nat} {bs:Lq} {L:List (List Sl)} {R:Nat} {s:List UInt8}
theorem Z0v (f:Yu a b c e=true) (M:HE n q a b c e cr md S T V h) {z i u:Nat} {ns:Lq} {l:List Sl} (oz:Bp a b c e (z:Nat)=true) (zl:z<2+e+a * b) (zs:z∈S) (zt:z ∉ T) (Sv:SlV ns l) (hi:l[i]? = some sl0) (fi:∀ k y,k<i->l[k]? = some y->y.1≠0) (my:Rp s=true) (u0:0<u) (u1:u<4294967296) (ha:∀ y∈l,y.1≠0->y.2≠s) :
  ∃ h',Zb 72 [.c (.ptr (n+13) 0),.c (.int .i64 (z:Int)),.g (pgL ns),.c (.str s),.c (.int .u32 (u:Int))] h (.w (.c (.int .i64 0))) h'/\HE n q a b c e cr md S T (Gp V z (Vo ns i (u,s))) h'/\Kp n q h h':=by
 obtain⟨nq,nx,n0⟩:=M.nx
 have xl:(pgL ns).length=256:=by rw[J7,Sv.vl]
 have al:=(Sv.add hi (x:=(u,s)) (.inr ⟨u0,u1,my⟩) ha (Zdd my).2).vl
 have al2:(pgL (Vo ns i (u,s))).length=256:=by rw[J7,al]
 have cA:=fun {h:Hq} {p:Nat} (hp:h.get p=some (.row 256 [pgL ns] false)) (pl:p<h.next)=>Z7i Hh Sv hi fi my u0 u1 ha hp pl
 have cP:=fun {h:Hq} (M:HE n q a b c e cr md S T V h)=>M.put f oz zl al zs zt
 obtain⟨X0,hX0⟩:∃ X,pgL ns=X:=⟨_,rfl⟩
 obtain⟨X1,hX1⟩:∃ X,pgL (Vo ns i (u,s))=X:=⟨_,rfl⟩
 rw[hX0] at xl ⊢
 rw[hX1] at al2
 simp only[hX0,hX1] at cA
 simp only[hX1] at cP
 obtain⟨V',hV⟩:=xzE (Gp V z (Vo ns i (u,s)))
 rw[hV]
 simp only[hV] at cP
 refine Ow ?_
 refine Ym Hh Tryz.f72 ?_
 have Jf:=@xl
 iterate 4 (first|refine Zn Hh Za Oq ?_|apply gS)
 refine Jq fun hA eA=>?_
 have nA:hA.next=h.next+1:=nxQ eA
 have kA:∀ m,m<h.next->hA.get m=h.get m:=kQ eA
 have gA:hA.get h.next=some (.row 256 [X0] false):=by rw[eA]; exact Zt
 clear eA
 obtain⟨hB,c1,gB,nB,kB⟩:=cA gA oM
 have MB:=M.keep (h2:=hB) oM fun m hm=>(kB m oM oM).trans (kA m oM)
 obtain⟨hC,eC,MC,nC,kC⟩:=cP MB
 have c4:=N7 Hh eC
 have Jf:=Jh Jf @gB @al2
 iterate 6 (first|refine Goes.Zi Oq ?_|refine Zn Hh (Zj Za c1) Oq ?_|apply gS)
 iterate 2 (first|refine Zn Hh (Zj Za c4) Oq ?_|apply gS)
 exact⟨_,_,Zd,rfl,MC,⟨oM,fun m hm ho=>(kC m ho.1).trans ((kB m oM oM).trans (kA m hm))⟩⟩
structure AdI (R b1 p6:Nat) (bs:Lq) (s:List UInt8) (A:List (Nat × Sl)) (t:Nat) (h:Hq):Prop where
 c6:h.get p6=some (.row 1 [[.str s]] false)
 c13:h.get b1=some (.row 1 [[.ptr R 0]] false)
 c14:h.get (b1+1)=some (.row 1 [[.bool (thF s (A.take t))]] false)
 c15:h.get (b1+2)=some (.row 1 [[.int .i64 (frF bs (A.take t):Int)]] false)
 nx:b1+6<=h.next
theorem adA (lq:Nat) (ts:Zv) (i:Nat) (u:List C) (ul:u.length=2) (h:Hq):Z9 105 (some lq) (q23 [1,1,1,1,1,1,0,1,2,5]) [] ((ts.set 43 (.w (.c (.int .i64 (i:Int))))).set 44 (.w (.g u))) h fun x ds' ts' h'=>x=.normal/\ds'=[]/\((∀ s,s<=15->Zg ts' s=Zg ts s)/\Zg ts' 16=.w (.c (.int .i64 (i:Int)))/\Zg ts' 17=.w (.c (.ptr h.next 0)))/\h'.next=h.next+1/\(∀ m,m<h.next->h'.get m=h.get m)/\h'.get h.next=some (.row 2 [u] false):=by
 have wr2:Z0 2 [[.int .u32 0,.str []]] 0 u=some [u]:=by
  match u,ul with
  | [u0,u1],_=>rfl
 have Jf:=Y2 @ul @wr2
 iterate 3 (first|refine Zn Hh Za Zt ?_|apply gS)
 refine⟨rfl,rfl,⟨fun s hs=>?_,?_,?_⟩,?_,fun m hm=>?_,?_⟩
 ·simp (decide:=true) only [Y9 hs]
 ·exact Zd
 ·exact Zd
 ·simp only[H.Zf,H.Ze]
 ·exact Yn
 ·first|exact Zz .. | (simp (maxSteps:=9^6) +decide (disch:=first|exact dZ|fail) only [go_sem,Zm,Zh,simprocAttr]; done)|(exact Zd)
theorem adB (yl:y.length=16) (M:HE n q a b c e cr md S T V h) {b1 p6 t i hb:Nat} {x:Sl} {A:List (Nat × Sl)} {ts:Zv} (bq:q+9<=p6) (b6:p6<R) (bR:R<b1) (at_:A[t]? = some (i,x)) (ib:i<bs.length) (nz:∀ p∈A,bs.getD p.1 0≠0) (t6:Zg ts 6=.w (.c (.ptr p6 0))) (t13:Zg ts 13=.w (.c (.ptr b1 0))) (t14:Zg ts 14=.w (.c (.ptr (b1+1) 0))) (t15:Zg ts 15=.w (.c (.ptr (b1+2) 0))) (t16:Zg ts 16=.w (.c (.int .i64 (i:Int)))) (t17:Zg ts 17=.w (.c (.ptr hb 0))) (gb:h.get hb=some (.row 2 [slC x] false)) (J:AdI R b1 p6 bs s A t h) (rd:RdS n y R (b1+5) (bs.take (i+1)) h) :
  Z9 105 (some (b1+5)) (q23 [1,1,1,1,1,1,0,1,2,6]) [] ts h fun x' _ _ h'=>x'=.normal/\h'.get (b1+5)=h.get (b1+5)/\AdI R b1 p6 bs s A (t+1) h'/\HE n q a b c e cr md S T V h'/\Kpr (b1+5) p6 [b1+1,b1+2] h h':=by
 obtain⟨c6,c13,c14,c15,nx⟩:=J
 have st:=Z27 s (A.take t) i x
 have sf:=Zqd (bs:=bs) (i:=i) (x:=x) (A:=A.take t) fun p hp=>nz p (List.mem_of_mem_take hp)
 rw[<-Zma at_] at st sf
 obtain⟨z,hz⟩:∃ z,bs[i]? = some z:=⟨_,lG ib⟩
 have hz':(bs.take (i+1))[i]? = some z:=by rw[List.getElem?_take_of_lt oM]; exact hz
 have zz:bs.getD i 0=z:=by rw[List.getD_eq_getElem?_getD,hz]; rfl
 obtain⟨cs,R1,R2⟩:=rd
 obtain⟨q0,q1,q2,q3,q4,q5⟩:=Rs (n:=n) (s:=cs) (e:=0) yl
 obtain⟨p,rfl,gp,bp,pl⟩:∃ p,cs=.slice p 0 (bs.take (i+1)).length 1/\h.get p=some (.row 1 (rwI (bs.take (i+1))) false)/\b1+5+1<=p/\p<h.next:=by
  rcases R2.1 with ⟨w,_⟩|⟨p,a1,a2,a3⟩
  ·rw[w] at hz'; simp at hz'
  ·exact⟨p,a2,a3,(R2.2 _ _ _ _ a2).1,(R2.2 _ _ _ _ a2).2⟩
 have lt:(bs.take (i+1)).length=i+1:=by rw[List.length_take]; omega
 have rz:=rdI hz'
 rw[lt] at q2 R1 q0 q1 q3
 obtain⟨r0,hr0⟩:∃ r,rdC n y (.slice p 0 (i+1) 1) 0=r:=⟨_,rfl⟩
 rw[hr0] at R1 q2
 obtain⟨Bw,hB⟩:∃ B,rwI (bs.take (i+1))=B:=⟨_,rfl⟩
 rw[hB] at gp rz
 obtain⟨th,hth⟩:∃ w,thF s (A.take t)=w:=⟨_,rfl⟩
 obtain⟨fr,hfr⟩:∃ w,frF bs (A.take t)=w:=⟨_,rfl⟩
 rw[hth] at c14 st
 rw[hfr] at c15 sf
 obtain⟨xi,xn⟩:=x
 unfold slC at gb
 simp only at gb st sf
 by_cases x0:xi=0
 ·have e1:((xi:Int) != 0)=false:=by subst x0; rfl
  have st':thF s (A.take (t+1))=th:=by rw[st,x0]; simp
  by_cases f0:fr=0
  ·have e2:((fr:Int) == 0)=true:=by subst f0; rfl
   have sf':frF bs (A.take (t+1))=z:=by rw[sf,if_pos ⟨f0,x0⟩,zz]
   have Jf:=Yp @t13 @t14 @t15 @t16 @t17 @gb @c13 @c15 (Yp @e1 @e2 @R1 @q2 @gp @rz @rd20 @rd21 @Ba)
   iterate 8 (first|refine Goes.Zi Zt ?_|refine Zn Hh Za Zt ?_|apply gS)
   refine⟨rfl,Zc oM,⟨?_,?_,?_,?_,?_⟩,M.keep (by rw[H.Zf]; omega) (fun m hm=>Zc oM),by rw[H.Zf]; omega,fun m hm ml mA _=>Zc (fun w=>mA (by rw[w]; simp))⟩
   ·rw[Zc oM]; exact c6
   ·rw[Zc oM]; exact c13
   ·rw[Zc oM,st']; exact c14
   ·rw[sf']; exact Zz ..
   ·rw[H.Zf]; exact nx
  ·have e2:((fr:Int) == 0)=false:=Db oM
   have sf':frF bs (A.take (t+1))=fr:=by rw[sf,if_neg fun w=>f0 w.1]
   have Jf:=Gq @t13 @t14 @t15 @t16 (Yp @t17 @gb @c13 @c15 @e1 @e2 @rd20 @rd21 @Ba)
   iterate 8 (first|refine Goes.Zi Zq ?_|refine Zn Hh Za Zq ?_|apply gS)
   exact⟨rfl,rfl,⟨c6,c13,by rw[st']; exact c14,by rw[sf']; exact c15,nx⟩,M,Nat.le_refl _,fun _ _ _ _ _=>rfl⟩
 ·have e1:((xi:Int) != 0)=true:=Nn oM
  have sf':frF bs (A.take (t+1))=fr:=by rw[sf,if_neg fun w=>x0 w.2]
  have st':thF s (A.take (t+1))=(th || Uk xn s):=by rw[st,Qq x0]; rfl
  have fin:∀ w:Bool,(th || Uk xn s)=w->AdI R b1 p6 bs s A (t+1) (h.put (b1+1) (.row 1 [[.bool w]] false)):=fun w hw =>
   ⟨by rw[Zc oM]; exact c6,by rw[Zc oM]; exact c13,by rw[st',hw]; exact Zz ..,by rw[Zc oM,sf']; exact c15,by rw[H.Zf]; exact nx⟩
  cases ht:th with
  | true =>
   rw[ht] at c14
   have Jf:=Ng @t6 @t13 @t14 @t15 @t16 @t17 (Yp @gb @c6 @c13 @c14 @c15 @e1 @rd20 @rd21 @Ba)
   iterate 5 (first|refine Goes.Zi Zq ?_|refine Zn Hh Za Zq ?_|apply gS)
   exact⟨rfl,Zc oM,fin true (by rw[ht]; rfl),M.keep (by rw[H.Zf]; omega) (fun m hm=>Zc oM),by rw[H.Zf]; omega,fun m hm ml mA _=>Zc (fun w=>mA (by rw[w]; simp))⟩
  | false =>
   rw[ht] at c14
   cases he:Uk xn s with
   | true =>
    iterate 5 (first|((first|apply Goes.Zi|apply gO fits Hh Za); · simp (maxSteps:=9^6) +decide (disch:=first|exact dZ|fail) only [go_sem,Zm,Zh,simprocAttr,t6,t13,t14,t15,t16,t17,gb,c6,c13,c14,c15,e1,he,rd20,rd21,Ba,R6]<;>rfl)|apply gS)
    exact⟨rfl,Zc oM,fin true (by rw[ht,he]; rfl),M.keep (by rw[H.Zf]; omega) (fun m hm=>Zc oM),by rw[H.Zf]; omega,fun m hm ml mA _=>Zc (fun w=>mA (by rw[w]; simp))⟩
   | false =>
    iterate 5 (first|((first|apply Goes.Zi|apply gO fits Hh Za); · simp (maxSteps:=9^6) +decide (disch:=first|exact dZ|fail) only [go_sem,Zm,Zh,simprocAttr,t6,t13,t14,t15,t16,t17,gb,c6,c13,c14,c15,e1,he,rd20,rd21,Ba,R6]<;>rfl)|apply gS)
    exact⟨rfl,Zc oM,fin false (by rw[ht,he]; rfl),M.keep (by rw[H.Zf]; omega) (fun m hm=>Zc oM),by rw[H.Zf]; omega,fun m hm ml mA _=>Zc (fun w=>mA (by rw[w]; simp))⟩
end
section
variable (Hh:Hearts K Tryz.prog)
include Hh
variable {n q a b c e:Nat} {cr:Cr} [Opn cr] {md:Int} {S T:Lq} {V:Nat->Lq} {h:Hq} {Al:(Nat->Lq)->Nat->Prop} {blk:Nat->Nat} {cap:Nat} {mt nk:Nat->Prop} {m:Nat}
theorem Ycy (f:Yu a b c e=true) (m0:md≠0) (A:AlcW n q a b c e cr md S Al blk cap mt nk) (M:HE n q a b c e cr md S T V h) (al:Al V m) (mc:m<cap) (hT:∀ z,mt z->z ∉ T) (bT:blk m ∉ T) (b32:blk m<4096) {x:List C} {P:Nat->Nat} (X:InoP x P) {i:Nat} (hi:i<8) (z:P i=0) {near:Nat} (nr:nk near) :
  ∃ h',Zb 146 [.c (.ptr (n+13) 0),.g x,.c (.int .i64 (i:Int)),.c (.int .i64 (near:Int))] h (.tup [.g (x.set (4+i) (.int .u32 (blk m:Nat))),.c (.int .i64 (blk m:Nat)),.c (.bool true),.c (.int .i64 0)]) h'/\Kp n q h h'/\∃ V',HE n q a b c e cr md S T V' h'/\Al V' (m+1)/\∀ z,¬ mt z->z≠blk m->V' z=V z:=by
 have wd:=Zoi hi
 have EB:=Ycx Hh f m0 A M al mc hT bT b32 X (i:=i) oM nr (r1:=blk m) (r2:=true) (R:=fun V'=>Al V' (m+1)/\∀ z,¬ mt z->z≠blk m->V' z=V z)
 rw[wd] at EB
 exact EB z (fun h1 s V1 M1 al1 v1 _ sl sb=>Z6j Hh M1 (fun h2 p4 p11 M2 n2 k2 a4 a11 b4 b11=>by
  obtain rfl:s=.snil:=by
   rcases sl with ⟨_,rfl⟩|⟨p,p1,_⟩
   ·rfl
   ·exact absurd p1 (by simp)
  exact⟨h2,Z22 Hh _ _,Kp.refl ..,V1,M2,al1,v1⟩))
end
theorem Za3 {a b c e:Nat} {V:Nat->Lq} {z:Nat} {x:Lq} (ne:∀ j,j<a * c->Y0 b c e j≠z) (i:Int):gI a b c e (Gp V z x) i=gI a b c e V i:=by
 unfold gI
 by_cases h:1<=i/\i<=((a * c:Nat):Int)
 ·rw[if_pos h,if_pos h,Jo (ne _ oM)]
 ·rw[if_neg h,if_neg h]
theorem Zni {a b c e j k l g s p0 p1 p2 p3 p4 p5 p6 p7 p8 p9 p10 nx:Nat} {V:Nat->Lq} (jl:j<a * c) (sl:(V (Y0 b c e j)).length=256) (kb:k<256) (lb:l<65536) (gb:g<4294967296) (sb:s<4294967296) (pb:∀ v∈[p0,p1,p2,p3,p4,p5,p6,p7,p8,p9,p10],v<4294967296) (nb:nx<4294967296) (hm:Ziq k l s p0 p1 p2 p3 p4 p5 p6 p7 p8 p9 p10 nx=true) :
  gI a b c e (Gp V (Y0 b c e j) (Ed (V (Y0 b c e j)) (La c j) k l g s [p0,p1,p2,p3,p4,p5,p6,p7,p8,p9,p10] nx)) ((j+1:Nat):Int)=(Ra k l g s p0 p1 p2 p3 p4 p5 p6 p7 p8 p9 p10 nx,0):=by
 have pc:=Rw c j
 unfold gI
 rw[if_pos ⟨oM,oM⟩,show ((j+1:Nat):Int).toNat - 1=j by omega,Bg,Z0q oM kb lb gb sb pb nb hm]
theorem Zv1 {a b c e i j k l g s nx:Nat} {ps:Lq} {V:Nat->Lq} (F:Fine a b c e) (sl:(V (Y0 b c e j)).length=256) (ne:i≠j) (pl:ps.length=11) :
  gI a b c e (Gp V (Y0 b c e j) (Ed (V (Y0 b c e j)) (La c j) k l g s ps nx)) ((i+1:Nat):Int)=gI a b c e V ((i+1:Nat):Int):=by
 unfold gI
 by_cases h:1<=((i+1:Nat):Int)/\((i+1:Nat):Int)<=((a * c:Nat):Int)
 ·rw[if_pos h,if_pos h,show ((i+1:Nat):Int).toNat - 1=i by omega]
  by_cases q:Y0 b c e i=Y0 b c e j
  ·have p:=Z2g F ne q
   have c1:=Rw c j
   have c2:=Rw c i
   rw[q,Bg,Zp0 (by rw[sl]; omega) (by rw[sl]; omega) pl oM]
  ·rw[Jo q]
 ·rw[if_neg h,if_neg h]
theorem Zpq {a b c e:Nat} (F:Fine a b c e) {z:Nat} (hz:z<2+e\/∃ k,z=2+e+k * b+1\/z=2+e+k * b):∀ j,j<a * c->Y0 b c e j≠z:=fun j hj q=>by
 obtain⟨g1,g2,g3,g4,g5,g6,g7,g8,g9,g10,g11⟩:=F
 have tc:j % c<c:=Nat.mod_lt _ oM
 unfold Y0 at q
 rcases hz with hz|⟨k,hz⟩
 ·omega
 ·have:j / c=k\/j / c<k\/k<j / c:=oM
  rcases this with h1|h1|h1
  ·rw[h1] at q; omega
  ·have:=Nat.mul_le_mul_right b (Nat.succ_le_of_lt h1)
   rw[Nat.succ_mul] at this
   omega
  ·have:=Nat.mul_le_mul_right b (Nat.succ_le_of_lt h1)
   rw[Nat.succ_mul] at this
   omega
theorem rs71:Tryz.f71.results.toList=[.tmp 10]:=rfl
attribute [go_sem] rs71
def Rm (k l g s:Nat) (P:Nat->Nat) (nx:Nat):List C:=Ra k l g s (P 0) (P 1) (P 2) (P 3) (P 4) (P 5) (P 6) (P 7) (P 8) (P 9) (P 10) nx
theorem Zc7 (k l g s:Nat) (P:Nat->Nat) (nx:Nat):(Rm k l g s P nx).length=16:=rfl
theorem Z1m {k l g s:Nat} {P:Nat->Nat} {nx i v:Nat} (h:i<11):(Rm k l g s P nx).set (4+i) (.int .u32 (v:Nat))=Rm k l g s (Od P i v) nx:=by
 match i,h with
 | 0,_=>rfl
 | 1,_=>rfl
 | 2,_=>rfl
 | 3,_=>rfl
 | 4,_=>rfl
 | 5,_=>rfl
 | 6,_=>rfl
 | 7,_=>rfl
 | 8,_=>rfl
 | 9,_=>rfl
 | 10,_=>rfl
theorem Zc6 {k l g s:Nat} {P:Nat->Nat} {nx:Nat} (h:∀ i,i<11->P i<4294967296):InoP (Rm k l g s P nx) P:=by
 refine⟨rfl,fun i hi=>?_,h⟩
 match i,hi with
 | 0,_=>rfl
 | 1,_=>rfl
 | 2,_=>rfl
 | 3,_=>rfl
 | 4,_=>rfl
 | 5,_=>rfl
 | 6,_=>rfl
 | 7,_=>rfl
 | 8,_=>rfl
 | 9,_=>rfl
 | 10,_=>rfl
theorem Zv7 (k l g s:Nat) (P:Nat->Nat) (nx:Nat):read1 16 [Rm k l g s P nx] 3=some (.int .i64 (s:Int)):=rfl
theorem Z59 (k l g s s':Nat) (P:Nat->Nat) (nx:Nat):Z0 16 [Rm k l g s P nx] 3 [.int .i64 (s':Int)]=some [Rm k l g s' P nx]:=rfl
theorem Z1v {s:Nat} (h:s % 256=0) (h2:s<=4096) (p0 p1 p2 p3 p4 p5 p6 p7 p8 p9 p10:Nat):Ziq (2:Nat) (1:Nat) (s:Nat) p0 p1 p2 p3 p4 p5 p6 p7 p8 p9 p10 (0:Nat)=true:=by
 have e:decide (((2:Nat):Int)=0)=false:=rfl
 have e2:decide (((2:Nat):Int)=2)=true:=rfl
 have e3:decide (((1:Nat):Int)=1)=true:=rfl
 have e4:decide ((s:Int) % 256=0)=true:=decide_eq_true oM
 have e5:decide (((0:Nat):Int)=0)=true:=rfl
 have e6:Ro ((1:Nat):Int) (s:Int)=true:=by
  unfold Ro
  rw[decide_eq_true (show (0:Int)<=((1:Nat):Int) by omega),decide_eq_true (show ((1:Nat):Int)<=1000 by omega),decide_eq_true (show (0:Int)<=(s:Int) by omega),decide_eq_true (show (s:Int)<=16777216 by omega)]
  rfl
 unfold Ziq
 rw[e,cond_false,e2,cond_true,e3,e4,e5,e6]
 rfl
theorem Z51 {a b c e:Nat} {V V':Nat->Lq} (h:∀ i,i<a * c->V' (Y0 b c e i)=V (Y0 b c e i)) (z:Int):gI a b c e V' z=gI a b c e V z:=by
 unfold gI
 by_cases w:1<=z/\z<=((a * c:Nat):Int)
 ·rw[if_pos w,if_pos w,h _ oM]
 ·rw[if_neg w,if_neg w]
section
variable (Hh:Hearts K Tryz.prog)
include Hh
variable {n q a b c e:Nat} {cr:Cr} [Opn cr] {md:Int} {S:Lq} {V:Nat->Lq} {h:Hq} {P:Nat->Nat} {s:List UInt8} {Al:(Nat->Lq)->Nat->Prop} {blk:Nat->Nat} {cap:Nat} {mt nk:Nat->Prop} {m:Nat}
theorem Z0u (f:Yu a b c e=true) (m0:md≠0) (A:AlcW n q a b c e cr md S Al blk cap mt nk) (M:HE n q a b c e cr md S [] V h) (al:Al V m) (mc:m<cap) (b32:blk m<4096) (mtI:∀ i,i<a * c->¬ mt (Y0 b c e i)) (bI:∀ i,i<a * c->Y0 b c e i≠blk m) {j g nb u:Nat} (jl:j<a * c) (js:Y0 b c e j∈S) (nr:nk (Y0 b c e j)) (gb:g<4294967296) (n8:nb<8) (pz:P nb=0) (pb:∀ i,i<11->P i<4294967296) (my:Rp s=true) (u0:0<u) (u1:u<4294967296) :
  ∃ h' V',Zb 71 [.c (.ptr (n+13) 0),.c (.int .i64 ((j+1:Nat):Int)),.g (Rm 2 1 g (256 * nb) P 0),.c (.str s),.c (.int .u32 (u:Int))] h (.w (.c (.int .i64 0))) h'/\HE n q a b c e cr md S [] V' h'/\Kp n q h h'/\Al V' (m+1)/\V' (blk m)=Vo zer0 0 (u,s)/\gI a b c e V' ((j+1:Nat):Int)=(Rm 2 1 g (256 * (nb+1)) (Od P nb (blk m)) 0,0)/\(∀ i,i≠j->gI a b c e V' ((i+1:Nat):Int)=gI a b c e V ((i+1:Nat):Int))/\∀ w,¬ mt w->w≠blk m->w≠Y0 b c e j->V' w=V w:=by
 obtain⟨nq,nx,n0⟩:=M.nx
 have FF:=Z5 f
 obtain⟨st,⟨kn,hs⟩,⟨dk,gl⟩,ht⟩:=M.cells
 unfold gdL gdD at gl
 obtain⟨o1,o2,o3,o4,o5⟩:=A.ours m mc
 have hE:=fun {h:Hq} (M:HE n q a b c e cr md S [] V h)=>Ycy Hh f m0 A M al mc (fun z _=>List.not_mem_nil) List.not_mem_nil b32 (x:=Rm 2 1 g (256 * nb) P 0) (Zc6 pb) n8 pz nr
 rw[Z1m (show nb<11 by omega)] at hE
 have hW:=fun (V1:Nat->Lq) {h:Hq} (M:HE n q a b c e cr md S [] V1 h)=>Z0v Hh f M (z:=blk m) o1 o2 o5 List.not_mem_nil (ns:=zer0) (l:=sl8) (i:=0) Ydh rfl (fun k y hk=>absurd hk oM) my u0 u1 (fun y hy y0=>by
  rw[List.eq_of_mem_replicate hy] at y0
  exact absurd rfl y0)
 rw[Zwx] at hW
 have pb':∀ i,i<11->Od P nb (blk m) i<4294967296:=fun i hi=>by
  unfold Od
  split
  ·omega
  ·exact pb i hi
 have hI:=fun (V2:Nat->Lq) {h:Hq} (M:HE n q a b c e cr md S [] V2 h)=>Ycq Hh f M jl js List.not_mem_nil (k:=2) (l:=1) (g:=g) (s:=256 * (nb+1)) (p0:=Od P nb (blk m) 0) (p1:=Od P nb (blk m) 1) (p2:=Od P nb (blk m) 2) (p3:=Od P nb (blk m) 3) (p4:=Od P nb (blk m) 4) (p5:=Od P nb (blk m) 5) (p6:=Od P nb (blk m) 6) (p7:=Od P nb (blk m) 7) (p8:=Od P nb (blk m) 8) (p9:=Od P nb (blk m) 9) (p10:=Od P nb (blk m) 10) (nx:=0) oM oM gb oM (fun v hv=>by
  simp only[List.mem_cons,List.not_mem_nil,or_false] at hv
  rcases hv with rfl|rfl|rfl|rfl|rfl|rfl|rfl|rfl|rfl|rfl|rfl<;>exact pb' _ oM) oM (Z1v oM oM _ _ _ _ _ _ _ _ _ _ _)
 have ei:∀ s,Ra ((2:Nat):Int) ((1:Nat):Int) (g:Int) ((s:Nat):Int) (Od P nb (blk m) 0:Nat) (Od P nb (blk m) 1:Nat) (Od P nb (blk m) 2:Nat) (Od P nb (blk m) 3:Nat) (Od P nb (blk m) 4:Nat) (Od P nb (blk m) 5:Nat) (Od P nb (blk m) 6:Nat) (Od P nb (blk m) 7:Nat) (Od P nb (blk m) 8:Nat) (Od P nb (blk m) 9:Nat) (Od P nb (blk m) 10:Nat) ((0:Nat):Int)=Rm 2 1 g s (Od P nb (blk m)) 0:=fun _=>rfl
 simp only[ei] at hI
 have rs0:=Zv7 2 1 g (256 * nb) P 0
 have rs1:=Zv7 2 1 g (256 * nb) (Od P nb (blk m)) 0
 have ws1:=Z59 2 1 g (256 * nb) (256 * (nb+1)) (Od P nb (blk m)) 0
 have l0:=Zc7 2 1 g (256 * nb) P 0
 have l1:=Zc7 2 1 g (256 * nb) (Od P nb (blk m)) 0
 have l2:=Zc7 2 1 g (256 * (nb+1)) (Od P nb (blk m)) 0
 have t1:((j+1:Nat):Int).toNat - 1=j:=oM
 have d1:decide (1<=((j+1:Nat):Int))=true:=decide_eq_true oM
 have d2:decide (((j+1:Nat):Int)<=((a * c:Nat):Int))=true:=decide_eq_true oM
 obtain⟨y2,hy2⟩:∃ y,Rm 2 1 g (256 * (nb+1)) (Od P nb (blk m)) 0=y:=⟨_,rfl⟩
 obtain⟨y1,hy1⟩:∃ y,Rm 2 1 g (256 * nb) (Od P nb (blk m)) 0=y:=⟨_,rfl⟩
 obtain⟨y0,hy0⟩:∃ y,Rm 2 1 g (256 * nb) P 0=y:=⟨_,rfl⟩
 rw[hy0] at rs0 l0 ⊢
 rw[hy1] at rs1 ws1 l1
 rw[hy2] at ws1 l2
 simp only[hy0,hy1] at hE
 simp only[hy2] at hI
 obtain⟨N,hN⟩:=xzE (256 * nb)
 have dv:N / 256=nb:=oM
 have ad:(N:Int)+256=((256 * (nb+1):Nat):Int):=oM
 rw[hN] at rs0 rs1
 have nlo:N<9223372036854775808:=oM
 obtain⟨V1,hB,c2,kB,MB,alB,vB⟩:∃ V1 h',Zb 146 [.c (.ptr (n+13) 0),.g y0,.c (.int .i64 (nb:Int)),.c (.int .i64 (Y0 b c e j:Nat))] (h.new (.row 16 [y0] false)) (.tup [.g y1,.c (.int .i64 (blk m:Nat)),.c (.bool true),.c (.int .i64 0)]) h'/\Kp n q (h.new (.row 16 [y0] false)) h'/\HE n q a b c e cr md S [] V1 h'/\Al V1 (m+1)/\∀ z,¬ mt z->z≠blk m->V1 z=V z:=by
  obtain⟨h',c2,k2,V1,M1,a1,v1⟩:=hE (M.keep (h2:=h.new (.row 16 [y0] false)) (by rw[H.Ze]; omega) fun m hm=>Yf oM)
  exact⟨V1,h',c2,k2,M1,a1,v1⟩
 have mbj:Y0 b c e j≠blk m:=bI j jl
 have vj:=vB _ (mtI j jl) mbj
 obtain⟨V2,hV2⟩:=xzE (Gp V1 (blk m) (Vo zer0 0 (u,s)))
 have v2j:V2 (Y0 b c e j)=V (Y0 b c e j):=by rw[<-hV2,Jo mbj]; exact vj
 have hW:=fun {h:Hq} (M:HE n q a b c e cr md S [] V1 h)=>hW V1 M
 simp only[hV2] at hW
 have hI:=fun {h:Hq} (M:HE n q a b c e cr md S [] V2 h)=>hI V2 M
 obtain⟨V3,hV3⟩:=xzE (Gp V2 (Y0 b c e j) (Ed (V2 (Y0 b c e j)) (La c j) 2 1 g (256 * (nb+1)) [Od P nb (blk m) 0,Od P nb (blk m) 1,Od P nb (blk m) 2,Od P nb (blk m) 3,Od P nb (blk m) 4,Od P nb (blk m) 5,Od P nb (blk m) 6,Od P nb (blk m) 7,Od P nb (blk m) 8,Od P nb (blk m) 9,Od P nb (blk m) 10] 0))
 simp only[hV3] at hI
 have slj:(V (Y0 b c e j)).length=256:=by
  obtain⟨g1,g2,g3,g4,g5,g6,g7,g8,g9,g10,g11⟩:=FF
  have ka:j / c<a:=Nat.div_lt_of_lt_mul (by rw[Nat.mul_comm]; omega)
  have tc:j % c<c:=Nat.mod_lt _ oM
  have st:=Dc (b:=b) ka
  exact M.len (Df (Z5 f) (by unfold Y0; omega) (by unfold Y0; omega)) (by unfold Y0; omega)
 have fin:Al V3 (m+1)/\V3 (blk m)=Vo zer0 0 (u,s)/\gI a b c e V3 ((j+1:Nat):Int)=(y2,0)/\(∀ i,i≠j->gI a b c e V3 ((i+1:Nat):Int)=gI a b c e V ((i+1:Nat):Int))/\∀ w,¬ mt w->w≠blk m->w≠Y0 b c e j->V3 w=V w:=by
  have g0:=Z51 (a:=a) (b:=b) (c:=c) (e:=e) (V:=V) (V':=V1) fun i hi=>vB _ (mtI i hi) (bI i hi)
  have g1:∀ z,gI a b c e V2 z=gI a b c e V1 z:=fun z=>by rw[<-hV2]; exact Za3 bI z
  refine⟨?_,?_,?_,fun i ne=>?_,fun w w1 w2 w3=>?_⟩
  ·rw[<-hV3,<-hV2]
   exact A.upd (A.upd alB o4) (mtI j jl)
  ·rw[<-hV3,Jo (Ne.symm mbj),<-hV2,Bg]
  ·rw[<-hV3,<-hy2]
   exact Zni jl (by rw[v2j]; exact slj) oM oM gb oM (fun v hv=>by
    simp only[List.mem_cons,List.not_mem_nil,or_false] at hv
    rcases hv with rfl|rfl|rfl|rfl|rfl|rfl|rfl|rfl|rfl|rfl|rfl<;>exact pb' _ oM) oM (Z1v oM oM _ _ _ _ _ _ _ _ _ _ _)
  ·rw[<-hV3,Zv1 FF (by rw[v2j]; exact slj) ne rfl,g1,g0]
  ·rw[<-hV3,Jo w3,<-hV2,Jo w2]
   exact vB w w1 w2
 obtain⟨nr',hnr⟩:∃ w,Y0 b c e j=w:=⟨_,rfl⟩
 rw[hnr] at c2
 unfold Y0 at hnr
 obtain⟨v,h',cc,rfl,M',k'⟩:∃ v h',Zb 71 [.c (.ptr (n+13) 0),.c (.int .i64 ((j+1:Nat):Int)),.g y0,.c (.str s),.c (.int .u32 (u:Int))] h v h'/\v=.w (.c (.int .i64 0))/\HE n q a b c e cr md S [] V3 h'/\Kp n q h h':=by
  refine Ym Hh Tryz.f71 ?_
  have Jf:=Vr @f @hs @gl @t1 @d1 @d2 @hnr (Yp @l0 @l1 @l2 @rs0 @rs1 @ws1 @dv @ad @nlo)
  iterate 5 (first|refine Zn Hh (EY (EY Za (J3 Hh)) (Td Hh)) Yd ?_|apply gS)
  iterate 13 (first|refine Goes.Zi Yd ?_|refine Zn Hh (Zj Za c2) Yd ?_|apply gS)
  refine Jq fun hC eC=>?_
  have nB:=kB.1
  rw[H.Ze] at nB
  have nC:hC.next=hB.next+1:=nxQ eC
  have kC:∀ m,m<hB.next->hC.get m=hB.get m:=kQ eC
  have gC:hC.get hB.next=some (.row 16 [y1] false):=by rw[eC]; exact Zt
  clear eC
  have MC:=MB.keep (h2:=hC) oM fun m hm=>kC m (by have:=MB.nx; omega)
  obtain⟨hD,c7,MD,kD⟩:=hW MC
  have nD:=kD.1
  have gD:=(kD.2 hB.next oM ⟨⟨oM,oM,oM,oM,oM⟩,oM⟩).trans gC
  have Jf:=Y2 Jf @gD
  iterate 8 (first|refine Goes.Zi Yd ?_|refine Zn Hh (Zj Za c7) Yd ?_|apply gS)
  refine Jq fun hE' eE=>?_
  have nE:hE'.next=hD.next:=by rw[eE,H.Zf]
  have kE:∀ m,m≠hB.next->hE'.get m=hD.get m:=fun m hm=>by rw[eE,Zc hm]
  have gE:hE'.get hB.next=some (.row 16 [y2] false):=by rw[eE,Zz]
  clear eE
  have ME:=MD.keep (h2:=hE') oM fun m hm=>kE m (by have:=MB.nx; omega)
  obtain⟨hF,c11,MF,kF⟩:=hI ME
  have Jf:=Y2 Jf @gE
  iterate 2 (first|refine Zn Hh (Zj Za c11) Yd ?_|apply gS)
  exact⟨_,_,Zd,rfl,MF,⟨by have:=kF.1; omega,fun m hm ho=>(kF.2 m oM ho).trans ((kE m oM).trans ((kD.2 m oM ho).trans ((kC m oM).trans ((kB.2 m (by rw[H.Ze]; omega) ho).trans (Yf oM)))))⟩⟩
 rw[<-hy2] at fin
 exact⟨h',V3,cc,M',k',fin⟩
end
structure DirS (a b c e:Nat) (V:Nat->Lq) (j g:Nat) (P:Nat->Nat) (bs:Lq) (L:List (List Sl)):Prop where
 gz:gI a b c e V ((j+1:Nat):Int)=(Rm 2 1 g (256 * bs.length) P 0,0)
 jl:j<a * c
 gb:g<4294967296
 pb:∀ i,i<11->P i<4294967296
 void:∀ i,bs.length<=i->i<11->P i=0
 db:DirB a b c e V P bs L
 nd:bs.Nodup
 dat:∀ z∈bs,∀ i,i<a * c->Y0 b c e i≠z
theorem DirS.o {a b c e:Nat} {V:Nat->Lq} {j g:Nat} {P:Nat->Nat} {bs:Lq} {L:List (List Sl)} (D:DirS a b c e V j g P bs L):DirO a b c e V ((j+1:Nat):Int) (Rm 2 1 g (256 * bs.length) P 0) P bs L :=
 ⟨D.gz,rfl,Zc6 D.pb,rfl,D.db⟩
theorem DirS.keep {a b c e j g:Nat} {V V':Nat->Lq} {P:Nat->Nat} {bs:Lq} {L:List (List Sl)} (D:DirS a b c e V j g P bs L) (gz:gI a b c e V' ((j+1:Nat):Int)=gI a b c e V ((j+1:Nat):Int)) (k:∀ z∈bs,V' z=V z):DirS a b c e V' j g P bs L:=by
 refine⟨gz.trans D.gz,D.jl,D.gb,D.pb,D.void,⟨D.db.lb,D.db.ll,fun i z hz=>?_⟩,D.nd,D.dat⟩
 obtain⟨h1,h2,h3,h4,l,h5,h6⟩:=D.db.at_ i z hz
 exact⟨h1,h2,h3,h4,l,h5,by rw[k z (lM hz)]; exact h6⟩
section
variable (Hh:Hearts K Tryz.prog)
include Hh
variable {n q a b c e:Nat} {cr:Cr} [Opn cr] {md:Int} {S:Lq} {V:Nat->Lq} {h:Hq} {y:List C} {P:Nat->Nat} {bs:Lq} {L:List (List Sl)} {R:Nat} {s:List UInt8}
omit Hh in
theorem DirB.nz (D:DirB a b c e V P bs L):∀ p∈Uw L,bs.getD p.1 0≠0:=by
 have key:∀ (L:List (List Sl)) (j:Nat),∀ p∈Lv j L,j<=p.1/\p.1<j+L.length:=fun L=>by
  induction L with
  | nil=>intro j p hp; simp [Lv] at hp
  | cons l r ih =>
   intro j p hp
   unfold Lv at hp
   rcases List.mem_append.1 hp with w|w
   ·obtain⟨x,hx,rfl⟩:=List.mem_map.1 w
    rw[List.length_cons]
    exact⟨Nat.le_refl _,by show j<_; omega⟩
   ·have:=ih (j+1) p w
    rw[List.length_cons]
    omega
 intro p hp
 have k:=key L 0 p hp
 have ll:=D.ll
 have hz:bs[p.1]? = some bs[p.1]:=lG oM
 rw[List.getD_eq_getElem?_getD,hz]
 exact (D.at_ p.1 _ hz).2.1
theorem Zzp (f:Yu a b c e=true) (m0:md≠0) {hC:Hq} {ts:Zv} {b1 p6:Nat} (nC:hC.next=b1+4) (bq:q+9<=p6) (b6:p6<R) (bR:R<b1) (X:InoP y P) (D:DirB a b c e V P bs L) (y3:y[3]? = some (.int .i64 ((256 * bs.length:Nat):Int))) (M:HE n q a b c e cr md S [] V hC)
  (hR:hC.get R=some (.row 19 [rdC n y .snil 0] false)) (a6:hC.get p6=some (.row 1 [[.str s]] false)) (a13:hC.get b1=some (.row 1 [[.ptr R 0]] false)) (a14:hC.get (b1+1)=some (.row 1 [[.bool false]] false)) (a15:hC.get (b1+2)=some (.row 1 [[.int .i64 0]] false)) (a7:hC.get (b1+3)=some (.row 1 [[.ptr R 0]] false))
  (t6:Zg ts 6=.w (.c (.ptr p6 0))) (t13:Zg ts 13=.w (.c (.ptr b1 0))) (t14:Zg ts 14=.w (.c (.ptr (b1+1) 0))) (t15:Zg ts 15=.w (.c (.ptr (b1+2) 0))) (t42:Zg ts 42=.w (.c (.fn 90 [] [some (b1+3,0)]))) :
  Z9 105 none (q23 [1,1,1,1,1,1,0,1,2]) [] ts hC fun x' ds' ts' h'=>x'=.normal/\ts'=ts/\ds'=[b1+4]/\h'.get (b1+4)=some .defers/\h'.get p6=some (.row 1 [[.str s]] false)/\h'.get b1=some (.row 1 [[.ptr R 0]] false)/\h'.get (b1+1)=some (.row 1 [[.bool (thF s (Uw L))]] false)/\h'.get (b1+2)=some (.row 1 [[.int .i64 (frF bs (Uw L):Int)]] false)/\HE n q a b c e cr md S [] V h'/\(∃ cs,h'.get R=some (.row 19 [rdC n y cs 0] false))/\b1+6<=h'.next/\∀ m,m<p6->m≠n+6->h'.get m=hC.get m:=by
 obtain⟨nq,nx,n0⟩:=M.nx
 have yl:=X.xl
 have Al:(Uw L).length=8 * bs.length:=by unfold Uw; rw[Zck D.l8,D.ll]
 have U:RnP n q R (b1+3) (b1+5) p6 [b1+1,b1+2]:=⟨nq,⟨oM,oM⟩,⟨oM,oM,oM⟩,fun m hm=>by
  simp only[List.mem_cons,List.not_mem_nil,or_false] at hm
  omega,oM⟩
 have ne:(q23 [1,1,1,1,1,1,0,1,2,6])≠(q23 [1,1,1,1,1,1,0,1,2,5]):=fun e1=>by
  rw[Zi8,Zi7] at e1
  cases e1
 have eg:Z4 K ts (.tmp 42)=some (.fn 90 [] [some (b1+3,0)]):=by simp only[Z4,Ya,t42,asC]
 rw[Zkp]
 refine (Zvu Hh (I:=AdI R b1 p6 bs s (Uw L)) (JT:=fun ts' i hb=>Zg ts' 6=.w (.c (.ptr p6 0))/\Zg ts' 13=.w (.c (.ptr b1 0))/\Zg ts' 14=.w (.c (.ptr (b1+1) 0))/\Zg ts' 15=.w (.c (.ptr (b1+2) 0))/\Zg ts' 16=.w (.c (.int .i64 (i:Int)))/\Zg ts' 17=.w (.c (.ptr hb 0))) ne oM oM f m0 nC U X D y3 ?_ oM ⟨oM,oM,fun m hm=>by simp only[List.mem_cons,List.not_mem_nil,or_false] at hm; omega⟩ ?_ ?_ hR a7 eg M ?_).mono ?_
 ·intro t h1 h2 J k
  have kk:∀ m,m<b1+4->m≠R->m≠n+6->h2.get m=h1.get m:=fun m hm h1' h2'=>k.2 m (by have:=J.nx; omega) (.inl ⟨oM,h1',h2'⟩)
  exact⟨(kk _ oM oM oM).trans J.c6,(kk _ oM oM oM).trans J.c13,(kk _ oM oM oM).trans J.c14,(kk _ oM oM oM).trans J.c15,Nat.le_trans J.nx k.1⟩
 ·exact fun i x h1=>(adA Hh (b1+4+1) ts i (slC x) rfl h1).mono fun x' ds' ts' h' ⟨e1,e2,⟨t1,t7,t8⟩,n1,k1,r1⟩=>⟨e1,e2,⟨(t1 6 dM).trans t6,(t1 13 dM).trans t13,(t1 14 dM).trans t14,(t1 15 dM).trans t15,t7,t8⟩,n1,k1,r1⟩
 ·exact fun t i x ts' h1 hb at_ ib ⟨u6,u13,u14,u15,u16,u17⟩ gb p1 p2 J M1 rd1 _=>adB Hh yl M1 bq b6 bR at_ ib D.nz u6 u13 u14 u15 u16 u17 gb J rd1
 ·exact fun h2 n2 k2=>⟨(k2 _ oM).trans a6,(k2 _ oM).trans a13,(k2 _ oM).trans a14,(k2 _ oM).trans a15,oM⟩
 rintro x1 ds1 ts1 h1 ⟨rfl,rfl,rfl,gd,J,M1,⟨cs,R1,R2⟩,n1,k1⟩
 rw[<-Al] at J
 obtain⟨c6,c13,c14,c15,nx'⟩:=J
 rw[List.take_of_length_le (Nat.le_refl _)] at c14 c15
 exact⟨rfl,rfl,rfl,gd,c6,c13,c14,c15,M1,⟨cs,R1⟩,n1,fun m hm m6=>k1 m oM oM m6 (fun w=>by simp only[List.mem_cons,List.not_mem_nil,or_false] at w; omega) (.inl hm)⟩
variable {j g u:Nat}
end
theorem Zg7:∀ {L:List (List Sl)} {j t i:Nat} {x:Sl},(∀ l∈L,l.length=8)->(Lv j L)[t]? = some (i,x)->∃ d k l,i=j+d/\t=8 * d+k/\L[d]? = some l/\l[k]? = some x
 | [],_,_,_,_,_,h=>by simp [Lv] at h
 | l0 :: r,j,t,i,x,hl,h=>by
  have l8:=hl l0 (List.mem_cons_self ..)
  unfold Lv at h
  by_cases w:t<8
  ·rw[List.getElem?_append_left (by rw[List.length_map,l8]; exact w),List.getElem?_map] at h
   obtain⟨y,hy,e⟩:=Option.map_eq_some_iff.1 h
   cases e
   exact⟨0,t,l0,rfl,oM,rfl,hy⟩
  ·rw[List.getElem?_append_right (by rw[List.length_map]; omega),List.length_map,l8] at h
   obtain⟨d,k,l,e1,e2,e3,e4⟩:=Zg7 (fun l h=>hl l (List.mem_cons_of_mem _ h)) h
   exact⟨d+1,k,l,oM,oM,by simpa using e3,e4⟩
theorem Zv0 {bs:Lq} {z:Nat} (z0:z≠0):∀ {A:List (Nat × Sl)},frF bs A=z->∃ (t i:Nat) (x:Sl),A[t]? = some (i,x)/\x.1=0/\bs.getD i 0=z/\∀ (t':Nat) (p:Nat × Sl),t'<t->A[t']? = some p->p.2.1≠0
 | [],h=>absurd (show (0:Nat)=z from h).symm z0
 | (i,x) :: r,h=>by
  have e:frF bs ((i,x) :: r)=if x.1=0 then bs.getD i 0 else frF bs r:=rfl
  rw[e] at h
  by_cases w:x.1=0
  ·rw[if_pos w] at h
   exact⟨0,i,x,rfl,w,h,fun t' p ht=>absurd ht oM⟩
  ·rw[if_neg w] at h
   obtain⟨t,i',x',h1,h2,h3,h4⟩:=Zv0 z0 h
   refine⟨t+1,i',x',by simpa using h1,h2,h3,fun t' p ht hp=>?_⟩
   match t',ht,hp with
   | 0,_,hp =>
    obtain rfl:(i,x)=p:=by simpa using hp
    exact w
   | t'+1,ht,hp=>exact h4 t' p oM (by simpa using hp)
theorem Zvz {bs:Lq}:∀ {A:List (Nat × Sl)},(∀ p∈A,bs.getD p.1 0≠0)->frF bs A=0->∀ p∈A,p.2.1≠0
 | [],_,_=>fun p hp=>by simp at hp
 | (i,x) :: r,nz,h=>by
  have e:frF bs ((i,x) :: r)=if x.1=0 then bs.getD i 0 else frF bs r:=rfl
  rw[e] at h
  have w:x.1≠0:=fun w=>by
   rw[if_pos w] at h
   exact nz (i,x) (List.mem_cons_self ..) h
  rw[if_neg w] at h
  intro p hp
  rcases List.mem_cons.1 hp with rfl|hp
  ·exact w
  ·exact Zvz (fun p hp=>nz p (List.mem_cons_of_mem _ hp)) h p hp
theorem Z7s {s:List UInt8} {A:List (Nat × Sl)} (h:thF s A=false):∀ p∈A,p.2.1≠0->p.2.2≠s:=fun p hp p0 e=>by
 unfold thF at h
 have:=List.any_eq_false.1 h p hp
 rw[Qq p0,Ep.2 e] at this
 exact this rfl
theorem Z6o {L:List (List Sl)} {i:Nat} {l:List Sl} {x:Sl} (hl:∀ l∈L,l.length=8) (h:L[i]? = some l) (hx:x∈l):(i,x)∈Uw L:=by
 obtain⟨k,hk⟩:=List.mem_iff_getElem?.1 hx
 have:=Zar (j:=0) hl h hk
 rw[Nat.zero_add] at this
 exact lM this
section
variable {a b c e:Nat} {V V':Nat->Lq} {P:Nat->Nat} {bs:Lq} {L:List (List Sl)} {j g i k z:Nat} {l l':List Sl} {x:Sl}
theorem DirB.free (D:DirB a b c e V P bs L) (hz:frF bs (Uw L)=z) (z0:z≠0):∃ i k l,bs[i]? = some z/\L[i]? = some l/\l[k]? = some sl0/\(∀ k' y,k'<k->l[k']? = some y->y.1≠0)/\∀ t p,t<8 * i+k->(Uw L)[t]? = some p->p.2.1≠0:=by
 obtain⟨t,i,x,h1,h2,h3,h4⟩:=Zv0 z0 hz
 obtain⟨d,k,l,rfl,rfl,e3,e4⟩:=Zg7 D.l8 h1
 rw[Nat.zero_add] at h3
 have x0:x=sl0:=by
  have:=D.sok (0+d,x) (lM h1)
  rcases this with w|w
  ·exact w
  ·exact absurd h2 (by show ¬ x.1=0; have:=w.1; simp only at this; omega)
 subst x0
 have dl:d<bs.length:=by
  rcases Nat.lt_or_ge d L.length with q|q
  ·rw[D.ll] at q; exact q
  ·rw[lN q] at e3; cases e3
 refine⟨d,k,l,?_,e3,e4,fun k' y hk hy=>?_,fun t p ht hp=>h4 t p ht hp⟩
 ·rw[List.getD_eq_getElem?_getD,lG dl] at h3
  rw[lG dl]
  exact congrArg some h3
 ·have:=Zar (j:=0) D.l8 e3 hy
  exact h4 (8 * d+k') _ oM this
theorem DirS.upd (D:DirS a b c e V j g P bs L) (hi:bs[i]? = some z) (hL:L[i]? = some l) {ns:Lq} (S':SlV ns l'):DirS a b c e (Gp V z ns) j g P bs (L.set i l'):=by
 obtain⟨gz,jl,gb,pb,vd,db,nd,dat⟩:=D
 have zm:=lM hi
 refine⟨by rw[Za3 (dat z zm)]; exact gz,jl,gb,pb,vd,⟨db.lb,by rw[List.length_set,db.ll],fun i' z' hz'=>?_⟩,nd,dat⟩
 obtain⟨d1,d2,d3,d4,l1,d5,d6⟩:=db.at_ i' z' hz'
 refine⟨d1,d2,d3,d4,?_⟩
 by_cases e:i'=i
 ·subst e
  rw[hi] at hz'
  cases hz'
  have il:i'<L.length:=by
   rcases Nat.lt_or_ge i' L.length with q|q
   ·exact q
   ·rw[lN q] at hL; cases hL
  exact⟨l',List.getElem?_set_self il,by rw[Bg]; exact S'⟩
 ·refine⟨l1,by rw[List.getElem?_set_ne (Ne.symm e)]; exact d5,?_⟩
  have ne:z'≠z:=fun w=>by
   subst w
   have i1:i'<bs.length:=by
    rcases Nat.lt_or_ge i' bs.length with q|q
    ·exact q
    ·rw[lN q] at hz'; cases hz'
   exact e ((List.getElem?_inj i1 nd).1 (hz'.trans hi.symm))
  rw[Jo ne]
  exact d6
theorem DirS.same (D:DirS a b c e V j g P bs L) (h1:gI a b c e V' ((j+1:Nat):Int)=gI a b c e V ((j+1:Nat):Int)) (h2:∀ z∈bs,V' z=V z):DirS a b c e V' j g P bs L:=by
 obtain⟨gz,jl,gb,pb,vd,db,nd,dat⟩:=D
 refine⟨by rw[h1]; exact gz,jl,gb,pb,vd,⟨db.lb,db.ll,fun i' z' hz'=>?_⟩,nd,dat⟩
 obtain⟨d1,d2,d3,d4,l1,d5,d6⟩:=db.at_ i' z' hz'
 exact⟨d1,d2,d3,d4,l1,d5,by rw[h2 z' (lM hz')]; exact d6⟩
theorem DirS.grow (D:DirS a b c e V j g P bs L) (n8:bs.length<8) (oz:Bp a b c e (z:Nat)=true) (zl:z<2+e+a * b) (z0:z≠0) (z32:z<4294967296) (zn:z ∉ bs) (zd:∀ i,i<a * c->Y0 b c e i≠z) (hg:gI a b c e V' ((j+1:Nat):Int)=(Rm 2 1 g (256 * (bs.length+1)) (Od P bs.length z) 0,0)) (hV:∀ w∈bs,V' w=V w) (hz:SlV (V' z) l'):DirS a b c e V' j g (Od P bs.length z) (bs++[z]) (L++[l']):=by
 obtain⟨gz,jl,gb,pb,vd,db,nd,dat⟩:=D
 have ll:=db.ll
 refine⟨by rw[hg,List.length_append]; rfl,jl,gb,fun i hi=>?_,fun i h1 h2=>?_,⟨by rw[List.length_append]; show _+1<=8; omega,by rw[List.length_append,List.length_append,ll]; rfl,fun i' z' hz'=>?_⟩,?_,fun w hw=>?_⟩
 ·unfold Od
  split
  ·exact z32
  ·exact pb i hi
 ·rw[List.length_append] at h1
  have h1:bs.length+1<=i:=h1
  unfold Od
  rw[if_neg oM]
  exact vd i oM h2
 ·rcases Nat.lt_or_ge i' bs.length with w|w
  ·rw[List.getElem?_append_left w] at hz'
   obtain⟨d1,d2,d3,d4,l1,d5,d6⟩:=db.at_ i' z' hz'
   refine⟨by unfold Od; rw[if_neg oM]; exact d1,d2,d3,d4,l1,by rw[List.getElem?_append_left oM]; exact d5,by rw[hV z' (lM hz')]; exact d6⟩
  ·have e:i'=bs.length:=by
    rcases Nat.lt_or_ge i' (bs++[z]).length with q|q
    ·rw[List.length_append] at q
     have q:i'<bs.length+1:=q
     omega
    ·rw[lN q] at hz'; cases hz'
   subst e
   rw[List.getElem?_append_right (Nat.le_refl _),Nat.sub_self] at hz'
   obtain rfl:z=z':=by simpa using hz'
   refine⟨by unfold Od; rw[if_pos rfl],z0,oz,zl,l',by rw[List.getElem?_append_right oM,ll,Nat.sub_self]; rfl,hz⟩
 ·rw[List.nodup_append]
  refine⟨nd,by simp,fun x hx y hy w=>?_⟩
  obtain rfl:y=z:=by simpa using hy
  subst w
  exact zn hx
 ·rcases List.mem_append.1 hw with q|q
  ·exact dat w q
  ·obtain rfl:w=z:=by simpa using q
   exact zd
end
open Go.Ev
def U3 (L:List (List Sl)):List Sl:=(Uw L).map Prod.snd
theorem Zle:∀ (L:List (List Sl)) (l:List Sl) (j:Nat),(Lv j (L++[l])).map Prod.snd=(Lv j L).map Prod.snd++l
 | [],l,j=>by
  show (l.map (fun x=>(j,x))++[]).map Prod.snd=[]++l
  rw[List.append_nil,List.map_map]
  exact List.map_id l
 | l0 :: r,l,j=>by
  show (l0.map (fun x=>(j,x))++Lv (j+1) (r++[l])).map Prod.snd=(l0.map (fun x=>(j,x))++Lv (j+1) r).map Prod.snd++l
  rw[List.map_append,List.map_append,Zle r l (j+1),List.append_assoc]
theorem Zqb (L:List (List Sl)) (l:List Sl):U3 (L++[l])=U3 L++l:=Zle L l 0
theorem Z98 (l:List Sl) (j:Nat):(l.map (fun x=>(j,x))).map Prod.snd=l:=by
 rw[List.map_map]
 exact List.map_id l
theorem Zlf:∀ {L:List (List Sl)} {i k j:Nat} {l:List Sl} (x:Sl),(∀ l∈L,l.length=8)->L[i]? = some l->k<8->(Lv j (L.set i (l.set k x))).map Prod.snd=((Lv j L).map Prod.snd).set (8 * i+k) x
 | [],_,_,_,_,_,_,h,_=>by simp at h
 | l0 :: r,0,k,j,l,x,hl,h,hk=>by
  obtain rfl:l0=l:=by simpa using h
  have l8:=hl l0 (List.mem_cons_self ..)
  show ((l0.set k x).map (fun x=>(j,x))++Lv (j+1) r).map Prod.snd=((l0.map (fun x=>(j,x))++Lv (j+1) r).map Prod.snd).set (8 * 0+k) x
  rw[List.map_append,List.map_append,Z98,Z98,Nat.mul_zero,Nat.zero_add,List.set_append_left _ _ oM]
 | l0 :: r,i+1,k,j,l,x,hl,h,hk=>by
  have l8:=hl l0 (List.mem_cons_self ..)
  have ih:=Zlf (L:=r) (i:=i) (k:=k) (j:=j+1) (l:=l) x (fun l h=>hl l (List.mem_cons_of_mem _ h)) (by simpa using h) hk
  show (l0.map (fun x=>(j,x))++Lv (j+1) (r.set i (l.set k x))).map Prod.snd=((l0.map (fun x=>(j,x))++Lv (j+1) r).map Prod.snd).set (8 * (i+1)+k) x
  rw[List.map_append,List.map_append,Z98,ih,List.set_append_right _ _ oM,l8,show 8 * (i+1)+k - 8=8 * i+k by omega]
theorem Zqc {L:List (List Sl)} {i k:Nat} {l:List Sl} (x:Sl) (hl:∀ l∈L,l.length=8) (h:L[i]? = some l) (hk:k<8):U3 (L.set i (l.set k x))=(U3 L).set (8 * i+k) x:=Zlf x hl h hk
theorem Zgw {L:List (List Sl)} {t i:Nat} {x:Sl} (h:(Uw L)[t]? = some (i,x)):(U3 L)[t]? = some x:=by
 unfold U3
 rw[List.getElem?_map,h]
 rfl
open Go.Ev
theorem rs29:Tryz.f29.results.toList=[.tmp 6]:=rfl
attribute [go_sem] rs29
theorem Znx {bs:Lq} {s:List UInt8}:∀ {A:List (Nat × Sl)},(lkF bs s A).1≠0->∃ (t i:Nat) (x:Sl),A[t]? = some (i,x)/\x.1=(lkF bs s A).1/\x.2=s/\bs.getD i 0=(lkF bs s A).2/\∀ (t':Nat) (p:Nat × Sl),t'<t->A[t']? = some p->p.2.1≠0->p.2.2≠s
 | [],h=>absurd rfl h
 | (i,x) :: r,h=>by
  have e:lkF bs s ((i,x) :: r)=if x.1≠0/\x.2=s then (x.1,bs.getD i 0) else lkF bs s r:=rfl
  rw[e] at h ⊢
  by_cases w:x.1≠0/\x.2=s
  ·rw[if_pos w]
   exact⟨0,i,x,rfl,rfl,w.2,rfl,fun t' p ht=>absurd ht oM⟩
  ·rw[if_neg w] at h ⊢
   obtain⟨t,i',x',h1,h2,h3,h4,h5⟩:=Znx h
   refine⟨t+1,i',x',by simpa using h1,h2,h3,h4,fun t' p ht hp p0=>?_⟩
   match t',ht,hp with
   | 0,_,hp =>
    obtain rfl:(i,x)=p:=by simpa using hp
    exact fun q=>w ⟨p0,q⟩
   | t'+1,ht,hp=>exact h5 t' p oM (by simpa using hp) p0
section
variable {a b c e:Nat} {V:Nat->Lq} {P:Nat->Nat} {bs:Lq} {L:List (List Sl)} {s:List UInt8}
theorem DirB.Z8c (D:DirB a b c e V P bs L) (h:(lkF bs s (Uw L)).1≠0):∃ i k l x,bs[i]? = some (lkF bs s (Uw L)).2/\L[i]? = some l/\l[k]? = some x/\x.1=(lkF bs s (Uw L)).1/\x.2=s/\(Uw L)[8 * i+k]? = some (i,x)/\∀ t p,t<8 * i+k->(Uw L)[t]? = some p->p.2.1≠0->p.2.2≠s:=by
 obtain⟨t,i,x,h1,h2,h3,h4,h5⟩:=Znx h
 obtain⟨d,k,l,rfl,rfl,e3,e4⟩:=Zg7 D.l8 h1
 rw[Nat.zero_add] at h4 h1
 have dl:d<bs.length:=by
  rcases Nat.lt_or_ge d L.length with q|q
  ·rw[D.ll] at q; exact q
  ·rw[lN q] at e3; cases e3
 refine⟨d,k,l,x,?_,e3,e4,h2,h3,h1,h5⟩
 rw[List.getD_eq_getElem?_getD,lG dl] at h4
 rw[lG dl]
 exact congrArg some h4
end
section
variable (Hh:Hearts K Tryz.prog)
include Hh
variable {n q a b c e:Nat} {cr:Cr} [Opn cr] {md:Int} {S:Lq} {V:Nat->Lq} {h:Hq} {P:Nat->Nat} {bs:Lq} {L:List (List Sl)} {s:List UInt8} {j g u:Nat}
theorem Z5s (f:Yu a b c e=true) (m0:md≠0) (M:HE n q a b c e cr md S [] V h) (D:DirS a b c e V j g P bs L) (my:Rp s=true) (w0:(lkF bs s (Uw L)).1≠0) (zs:(lkF bs s (Uw L)).2∈S) :
  ∃ h' i k l x z,Zb 29 [.c (.ptr (n+13) 0),.c (.int .i64 ((j+1:Nat):Int)),.c (.str s)] h (.w (.c (.int .i64 0))) h'/\Kp n q h h'/\z=(lkF bs s (Uw L)).2/\bs[i]? = some z/\L[i]? = some l/\l[k]? = some x/\x.1≠0/\x.2=s/\(∀ t p,t<8 * i+k->(Uw L)[t]? = some p->p.2.1≠0->p.2.2≠s)/\HE n q a b c e cr md S [] (Gp V z (Ze5 (V z) k)) h'/\DirS a b c e (Gp V z (Ze5 (V z) k)) j g P bs (L.set i (l.set k sl0)):=by
 obtain⟨nq,nx,n0⟩:=M.nx
 obtain⟨st,⟨kn,hs⟩,⟨dk,gl⟩,ht⟩:=M.cells
 unfold gdL gdD at gl
 have dm:(md != 0)=true:=Nn m0
 have cM:=fun h=>Zx6 Hh s h
 rw[my] at cM
 have DD:=D
 obtain⟨gz,jl,gb,pb,vd,db,nd,dat⟩:=D
 have ip:=Zc6 (k:=2) (l:=1) (g:=g) (s:=256 * bs.length) (nx:=0) pb
 have yl:=ip.xl
 obtain⟨i,k,l,x,f1,f2,f3,f4,f5,f6,f7⟩:=db.Z8c w0
 have x0:x.1≠0:=by rw[f4]; exact w0
 obtain⟨d1,d2,d3,d4,l1,d5,d6⟩:=db.at_ i _ f1
 rw[f2] at d5
 cases d5
 obtain⟨hB,c6,BR,nB,MB,kB⟩:=Zgr Hh f m0 M gz rfl yl
 obtain⟨hL,c7,ML,⟨cs,LR⟩,nL,kL⟩:=Z1t Hh (s:=s) f m0 MB ip db rfl db.sb BR ⟨oM,nB⟩
 obtain⟨g0,g1,g2,g3,g4,g5⟩:=Rs (n:=n) (s:=cs) (e:=0) yl
 obtain⟨r0,hr0⟩:∃ r,rdC n (Rm 2 1 g (256 * bs.length) P 0) cs 0=r:=⟨_,rfl⟩
 rw[hr0] at LR g3
 obtain⟨w1,hw1⟩:∃ w,(lkF bs s (Uw L)).1=w:=⟨_,rfl⟩
 obtain⟨z,hz⟩:∃ w,(lkF bs s (Uw L)).2=w:=⟨_,rfl⟩
 rw[hw1,hz] at c7
 rw[hw1] at w0
 rw[hz] at f1 d1 d2 d3 d4 d6 zs ⊢
 have ew:((w1:Int) == 0)=false:=Db oM
 have D':=DD.upd f1 f2 (d6.rem f3)
 have rl:(Ze5 (V z) k).length=256:=(d6.rem f3).vl
 have xl:(pgL (V z)).length=256:=by rw[J7,d6.vl]
 have rl2:(pgL (Ze5 (V z) k)).length=256:=by rw[J7,rl]
 have hG:=fun {h:Hq} (M:HE n q a b c e cr md S [] V h)=>M.get f d3 d4
 have hP:=fun {h:Hq} (M:HE n q a b c e cr md S [] V h)=>M.put f d3 d4 rl zs List.not_mem_nil
 have hR:=fun {h:Hq} {p:Nat} (hp:h.get p=some (.row 256 [pgL (V z)] false)) (pl:p<h.next)=>Z7j Hh d6 f3 x0 hp pl
 rw[f5] at hR
 obtain⟨V',hV'⟩:=xzE (Gp V z (Ze5 (V z) k))
 simp only[hV'] at hP
 obtain⟨X0,hX0⟩:∃ X,pgL (V z)=X:=⟨_,rfl⟩
 obtain⟨X1,hX1⟩:∃ X,pgL (Ze5 (V z) k)=X:=⟨_,rfl⟩
 rw[hX0] at xl
 rw[hX1] at rl2
 simp only[hX0] at hG
 simp only[hX0,hX1] at hR
 simp only[hX1] at hP
 obtain⟨v,h',cc,rfl,M',k'⟩:∃ v h',Zb 29 [.c (.ptr (n+13) 0),.c (.int .i64 ((j+1:Nat):Int)),.c (.str s)] h v h'/\v=.w (.c (.int .i64 0))/\HE n q a b c e cr md S [] V' h'/\Kp n q h h':=by
  obtain⟨hG1,eG,MG,nG,kG⟩:=hG ML
  have c12:=Eo Hh eG
  refine Ym Hh Tryz.f29 ?_
  have Jf:=Y2 @f (Yp @hs @gl @ht @dm @Ba @LR @g3 @ew @xl)
  iterate 11 (first|refine Goes.Zi Yd ?_|refine Zn Hh (EY Za (Zcf Hh)) Yd ?_|apply gS)
  iterate 4 (first|refine Goes.Zi Yd ?_|refine Zn Hh (Y3 Za cM) Yd ?_|apply gS)
  iterate 2 (first|refine Zn Hh (Zj Za c6) Yd ?_|apply gS)
  iterate 12 (first|refine Goes.Zi Yd ?_|refine Zn Hh (Zj Za c7) Yd ?_|apply gS)
  iterate 8 (first|refine Goes.Zi Yd ?_|refine Zn Hh (Zj Za c12) Yd ?_|apply gS)
  refine Jq fun hD eD=>?_
  have nD:hD.next=hG1.next+1:=nxQ eD
  have kD:∀ m,m<hG1.next->hD.get m=hG1.get m:=kQ eD
  have gD:hD.get hG1.next=some (.row 256 [X0] false):=by rw[eD]; exact Zt
  clear eD
  have MD:=MG.keep (h2:=hD) oM fun m hm=>kD m (by have:=MG.nx; omega)
  obtain⟨hE,c15,gE,nE,kE⟩:=hR gD oM
  have ME:=MD.keep (h2:=hE) nE fun m hm=>kE m (by have:=MD.nx; omega) (by have:=MG.nx; omega)
  obtain⟨hF,eF,MF,nF,kF⟩:=hP ME
  have c17:=N7 Hh eF
  have Jf:=Jh Jf @gE @rl2
  iterate 4 (first|refine Goes.Zi Yd ?_|refine Zn Hh (Zj Za c15) Yd ?_|apply gS)
  iterate 2 (first|refine Zn Hh (Zj Za c17) Yd ?_|apply gS)
  exact⟨_,_,Zd,rfl,MF,⟨by have:=kB.1; omega,fun m hm ho=>(kF m ho.1).trans ((kE m oM oM).trans ((kD m oM).trans ((kG m oM ho.1.1).trans ((kL m oM oM ho.1.1).trans (kB.2 m hm ho.1.1)))))⟩⟩
 subst hV'
 exact⟨h',i,k,l,x,z,cc,k',rfl,f1,f2,f3,x0,f5,f7,M',D'⟩
end
open Go.Ev
structure DN (L:List (List Sl)) (N:List UInt8->Nat):Prop where
 val:∀ (t:Nat) (x:Sl),(U3 L)[t]? = some x->x.1≠0->N x.2=x.1
 ex:∀ s,N s≠0->∃ t:Nat,(U3 L)[t]? = some (N s,s)
 one:∀ (t t':Nat) (x y:Sl),(U3 L)[t]? = some x->(U3 L)[t']? = some y->x.1≠0->y.1≠0->x.2=y.2->t=t'
def upN (N:List UInt8->Nat) (s:List UInt8) (u:Nat):List UInt8->Nat:=fun r=>if r=s then u else N r
theorem Zdy (N:List UInt8->Nat) (s:List UInt8) (u:Nat):upN N s u s=u:=if_pos rfl
theorem Zfd {N:List UInt8->Nat} {r s:List UInt8} {u:Nat} (h:r≠s):upN N s u r=N r:=if_neg h
theorem DN.nil:DN [] (fun _=>0):=⟨fun t x h=>by simp [U3,Uw,Lv] at h,fun s h=>absurd rfl h,fun t t' x y h=>by simp [U3,Uw,Lv] at h⟩
section
variable {L:List (List Sl)} {N:List UInt8->Nat} {bs:Lq} {s:List UInt8} {i k u:Nat} {l:List Sl} {x:Sl}
theorem Z06 {p:Nat × Sl} (h:p∈Uw L):∃ t:Nat,(U3 L)[t]? = some p.2:=by
 obtain⟨t,ht⟩:=List.mem_iff_getElem?.1 h
 exact⟨t,Zgw (i:=p.1) (x:=p.2) ht⟩
theorem Zvx {t:Nat} (h:(U3 L)[t]? = some x):∃ i,(Uw L)[t]? = some (i,x):=by
 unfold U3 at h
 rw[List.getElem?_map] at h
 obtain⟨p,hp,rfl⟩:=Option.map_eq_some_iff.1 h
 exact⟨p.1,hp⟩
theorem DN.look (D:DN L N) (bs:Lq) (s:List UInt8):(lkF bs s (Uw L)).1=N s:=by
 by_cases w:(lkF bs s (Uw L)).1=0
 ·rw[w]
  apply Classical.byContradiction
  intro h
  obtain⟨t,ht⟩:=D.ex s (Ne.symm h)
  obtain⟨j,hj⟩:=Zvx ht
  have lz:∀ (A:List (Nat × Sl)),(lkF bs s A).1=0->∀ p∈A,p.2.1≠0->p.2.2≠s:=fun A=>by
   induction A with
   | nil=>intro _ p hp; simp at hp
   | cons y r ih =>
    intro h p hp p0 pe
    obtain⟨i,y⟩:=y
    have e:lkF bs s ((i,y) :: r)=if y.1≠0/\y.2=s then (y.1,bs.getD i 0) else lkF bs s r:=rfl
    rw[e] at h
    by_cases w:y.1≠0/\y.2=s
    ·rw[if_pos w] at h; exact w.1 h
    ·rw[if_neg w] at h
     rcases List.mem_cons.1 hp with rfl|hp
     ·exact w ⟨p0,pe⟩
     ·exact ih h p hp p0 pe
  exact lz _ w _ (lM hj) (Ne.symm h) rfl
 ·obtain⟨t,j,y,h1,h2,h3,_,_⟩:=Znx w
  have:=D.val t y (Zgw h1) (by rw[h2]; exact w)
  rw[h3] at this
  rw[this,h2]
theorem DN.th (D:DN L N) (h:N s=0):thF s (Uw L)=false:=by
 unfold thF
 refine List.any_eq_false.2 fun p hp=>?_
 obtain⟨t,ht⟩:=Z06 hp
 by_cases w:p.2.1=0
 ·rw[w]; simp
 ·have:=D.val t p.2 ht w
  rw[Zel,decide_eq_false (fun e=>by rw[e,h] at this; exact w this.symm),Bool.and_false]
  decide
theorem DN.put (D:DN L N) {t:Nat} {F:List Sl} (hF:F=(U3 L).set t x) {y:Sl} (hy:(U3 L)[t]? = some y) (s0:N x.2=0) (y0:y.1=0) (x0:x.1≠0) {L':List (List Sl)} (hL:U3 L'=F):DN L' (upN N x.2 x.1):=by
 have tl:t<(U3 L).length:=by
  rcases Nat.lt_or_ge t (U3 L).length with q|q
  ·exact q
  ·rw[lN q] at hy; cases hy
 have at_:∀ j,(U3 L')[j]? = if t=j then some x else (U3 L)[j]?:=fun j=>by
  rw[hL,hF,List.getElem?_set]
  by_cases e:t=j
  ·subst e; simp [tl]
  ·simp [e]
 refine⟨fun j z hz z0=>?_,fun r hr=>?_,fun j j' a b ha hb a0 b0 e=>?_⟩
 ·rw[at_] at hz
  by_cases e:t=j
  ·rw[if_pos e] at hz; cases hz; exact Zdy ..
  ·rw[if_neg e] at hz
   have v:=D.val j z hz z0
   rw[Zfd fun w=>by rw[w,s0] at v; exact z0 v.symm]
   exact v
 ·by_cases e:r=x.2
  ·subst e
   refine⟨t,?_⟩
   rw[at_,if_pos rfl,Zdy]
  ·rw[Zfd e] at hr ⊢
   obtain⟨j,hj⟩:=D.ex r hr
   refine⟨j,?_⟩
   rw[at_,if_neg fun w=>by subst w; rw[hy] at hj; cases hj; exact hr y0]
   exact hj
 ·rw[at_] at ha hb
  by_cases e1:t=j
  ·by_cases e2:t=j'
   ·omega
   ·rw[if_pos e1] at ha; rw[if_neg e2] at hb
    cases ha
    have v:=D.val j' b hb b0
    rw[<-e,s0] at v
    exact absurd v.symm b0
  ·by_cases e2:t=j'
   ·rw[if_neg e1] at ha; rw[if_pos e2] at hb
    cases hb
    have v:=D.val j a ha a0
    rw[e,s0] at v
    exact absurd v.symm a0
   ·rw[if_neg e1] at ha; rw[if_neg e2] at hb
    exact D.one j j' a b ha hb a0 b0 e
theorem DN.set (D:DN L N) (hl:∀ l∈L,l.length=8) (hi:L[i]? = some l) (hk:l[k]? = some sl0) (s0:N s=0) (u0:u≠0):DN (L.set i (l.set k (u,s))) (upN N s u):=by
 have k8:k<8:=by
  have l8:=hl l (lM hi)
  rcases Nat.lt_or_ge k l.length with q|q
  ·omega
  ·rw[lN q] at hk; cases hk
 exact D.put (x:=(u,s)) rfl (Zgw (Zar (j:=0) hl hi hk)) s0 rfl u0 (Zqc _ hl hi k8)
theorem DN.grow (D:DN L N) (s0:N s=0) (u0:u≠0):DN (L++[sl8.set 0 (u,s)]) (upN N s u):=by
 obtain⟨n,hn⟩:=xzE ((U3 L).length)
 have fl:U3 (L++[sl8])=U3 L++sl8:=Zqb L sl8
 have z8:∀ (j:Nat) (z:Sl),sl8[j]? = some z->z=sl0:=fun j z hz=>List.eq_of_mem_replicate (lM hz)
 have D':DN (L++[sl8]) N:=by
  refine⟨fun t x h x0=>?_,fun r hr=>?_,fun t t' x y hx hy x0 y0 e=>?_⟩
  ·rw[fl] at h
   rcases Nat.lt_or_ge t n with q|q
   ·rw[List.getElem?_append_left oM] at h; exact D.val t x h x0
   ·rw[List.getElem?_append_right oM] at h; rw[z8 _ _ h] at x0; exact absurd rfl x0
  ·obtain⟨t,ht⟩:=D.ex r hr
   refine⟨t,?_⟩
   rw[fl,List.getElem?_append_left (by
    rcases Nat.lt_or_ge t (U3 L).length with q|q
    ·exact q
    ·rw[lN q] at ht; cases ht)]
   exact ht
  ·rw[fl] at hx hy
   rcases Nat.lt_or_ge t n with q|q
   ·rcases Nat.lt_or_ge t' n with q'|q'
    ·rw[List.getElem?_append_left oM] at hx hy; exact D.one t t' x y hx hy x0 y0 e
    ·rw[List.getElem?_append_right oM] at hy; rw[z8 _ _ hy] at y0; exact absurd rfl y0
   ·rw[List.getElem?_append_right oM] at hx; rw[z8 _ _ hx] at x0; exact absurd rfl x0
 refine D'.put (x:=(u,s)) (t:=n) (y:=sl0) rfl ?_ s0 rfl u0 ?_
 ·rw[fl,List.getElem?_append_right oM,hn,Nat.sub_self]; rfl
 ·rw[Zqb,fl,List.set_append_right _ _ oM,hn,Nat.sub_self]
theorem DN.rem (D:DN L N) (hl:∀ l∈L,l.length=8) (hi:L[i]? = some l) (hk:l[k]? = some x) (x0:x.1≠0):DN (L.set i (l.set k sl0)) (upN N x.2 0):=by
 have k8:k<8:=by
  have l8:=hl l (lM hi)
  rcases Nat.lt_or_ge k l.length with q|q
  ·omega
  ·rw[lN q] at hk; cases hk
 have hy:=Zgw (Zar (j:=0) hl hi hk)
 have fs:=Zqc sl0 hl hi k8
 obtain⟨t,ht⟩:=xzE (8 * i+k)
 rw[ht] at hy fs
 have tl:t<(U3 L).length:=by
  rcases Nat.lt_or_ge t (U3 L).length with q|q
  ·exact q
  ·rw[lN q] at hy; cases hy
 have at_:∀ j,(U3 (L.set i (l.set k sl0)))[j]? = if t=j then some sl0 else (U3 L)[j]?:=fun j=>by
  rw[fs,List.getElem?_set]
  by_cases e:t=j
  ·subst e; simp [tl]
  ·simp [e]
 refine⟨fun j z hz z0=>?_,fun r hr=>?_,fun j j' a b ha hb a0 b0 e=>?_⟩
 ·rw[at_] at hz
  by_cases e:t=j
  ·rw[if_pos e] at hz; cases hz; exact absurd rfl z0
  ·rw[if_neg e] at hz
   rw[Zfd fun w=>e (D.one t j x z hy hz x0 z0 w.symm)]
   exact D.val j z hz z0
 ·by_cases e:r=x.2
  ·subst e; rw[Zdy] at hr; exact absurd rfl hr
  ·rw[Zfd e] at hr ⊢
   obtain⟨j,hj⟩:=D.ex r hr
   refine⟨j,?_⟩
   rw[at_,if_neg fun w=>by subst w; rw[hy] at hj; cases hj; exact e rfl]
   exact hj
 ·rw[at_] at ha hb
  by_cases e1:t=j
  ·rw[if_pos e1] at ha; cases ha; exact absurd rfl a0
  ·by_cases e2:t=j'
   ·rw[if_pos e2] at hb; cases hb; exact absurd rfl b0
   ·rw[if_neg e1] at ha; rw[if_neg e2] at hb
    exact D.one j j' a b ha hb a0 b0 e
theorem Zlr:∀ {A B:List (List UInt8)},A.Nodup->(∀ x∈A,x∈B)->A.length<=B.length
 | [],_,_,_=>Nat.zero_le _
 | a :: A,B,nd,sb=>by
  have nd':=List.nodup_cons.1 nd
  have aB:=sb a (List.mem_cons_self ..)
  have:=Zlr (A:=A) (B:=B.erase a) nd'.2 fun x hx=>(List.mem_erase_of_ne (fun e=>nd'.1 (by rw[<-e]; exact hx))).2 (sb x (List.mem_cons_of_mem _ hx))
  rw[List.length_erase_of_mem aB] at this
  have:=List.length_pos_of_mem aB
  rw[List.length_cons]
  omega
theorem DN.full (D:DN L N) {A:List (List UInt8)} (hA:∀ s,N s≠0->s∈A) (fu:∀ p∈Uw L,p.2.1≠0):(U3 L).length<=A.length:=by
 have u0:∀ (t:Nat) (x:Sl),(U3 L)[t]? = some x->x.1≠0:=fun t x h=>by
  obtain⟨i,hi⟩:=Zvx h
  exact fu _ (lM hi)
 have nd:((U3 L).map Prod.snd).Nodup:=by
  rw[List.Nodup,List.pairwise_iff_getElem]
  intro t t' h1 h2 lt e
  rw[List.length_map] at h1 h2
  have a1:(U3 L)[t]? = some (U3 L)[t]:=lG h1
  have a2:(U3 L)[t']? = some (U3 L)[t']:=lG h2
  rw[List.getElem_map,List.getElem_map] at e
  have:=D.one t t' _ _ a1 a2 (u0 _ _ a1) (u0 _ _ a2) e
  omega
 have:=Zlr nd (B:=A) fun s hs=>by
  obtain⟨x,hx,rfl⟩:=List.mem_map.1 hs
  obtain⟨t,ht⟩:=List.mem_iff_getElem?.1 hx
  have v:=D.val t x ht (u0 t x ht)
  exact hA _ (by rw[v]; exact u0 t x ht)
 rw[List.length_map] at this
 exact this
end
end Go.Proofs.YtmanipmhebgdbaaGreatDoor
