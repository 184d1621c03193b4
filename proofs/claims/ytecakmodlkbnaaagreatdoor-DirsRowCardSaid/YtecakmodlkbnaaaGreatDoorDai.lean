/- dirs: write; what Add finds as it goes over a directory. -/
import Derived.Test.YtecakmodlkbnaaaGreatDoorDlo
import Derived.Test.YtecakmodlkbnaaaGreatDoorStrX
import Derived.Test.YtecakmodlkbnaaaGreatDoorMpg
import Derived.Test.YtecakmodlkbnaaaGreatDoorIpu
set_option linter.unusedSimpArgs false
set_option linter.unusedVariables false
set_option linter.unusedSectionVars false
set_option maxRecDepth 100000
set_option maxHeartbeats 4000000
namespace Go.Proofs.YtecakmodlkbnaaaGreatDoor
open Go.Ev
noncomputable def q9 (p:List Nat):Code:=piece p (Uh Tryz.f9)
theorem Zmj:q9 [1,1,1,1,1,1,0,1,2]=.rangeFunc (.tmp 42) #[43,44] (q9 [1,1,1,1,1,1,0,1,2,5]) (q9 [1,1,1,1,1,1,0,1,2,6]):=by kernel_rfl
theorem Zjt:q9 [1,1,1,1,1,1,0,1,2,5]=.seq (q9 [1,1,1,1,1,1,0,1,2,5,0]) (q9 [1,1,1,1,1,1,0,1,2,5,1]):=by kernel_rfl
theorem Zjv:q9 [1,1,1,1,1,1,0,1,2,6]=.block 1 (q9 [1,1,1,1,1,1,0,1,2,6,2]):=by kernel_rfl
theorem rs9:Tryz.f9.results.toList=[.tmp 8]:=rfl
theorem rs37:Tryz.f37.results.toList=[.tmp 10]:=rfl
attribute [go_sem] rs9 rs37
def thF (s:List UInt8) (A:List (Nat × Sl)):Bool:=A.any fun p=>!Nat.beq p.2.1 0&&Uw p.2.2 s
def frF (bs:List Nat):List (Nat × Sl)→Nat
 | []=>0
 | (i,x) :: r=>if x.1=0 then bs.getD i 0 else frF bs r
theorem Z0x (s:List UInt8) (A:List (Nat × Sl)) (i:Nat) (x:Sl):thF s (A++[(i,x)])=(thF s A || (!Nat.beq x.1 0&&Uw x.2 s)):=by
 unfold thF
 rw[List.any_append]
 simp
theorem Zpl {bs:List Nat} {i:Nat} {x:Sl}:∀ {A:List (Nat × Sl)},(∀ p∈A,bs.getD p.1 0≠0)→frF bs (A++[(i,x)])=if frF bs A=0∧x.1=0 then bs.getD i 0 else frF bs A
 | [],_=>by
  show (if x.1=0 then bs.getD i 0 else 0)=if (0:Nat)=0∧x.1=0 then bs.getD i 0 else 0
  simp
 | (j,y) :: r,h=>by
  have ih:=Zpl (bs:=bs) (i:=i) (x:=x) (A:=r) fun p hp=>h p (List.mem_cons_of_mem _ hp)
  have e:frF bs ((j,y) :: r)=if y.1=0 then bs.getD j 0 else frF bs r:=rfl
  have hj:=h (j,y) (List.mem_cons_self ..)
  show (if y.1=0 then bs.getD j 0 else frF bs (r++[(i,x)]))=_
  rw[ih,e]
  by_cases w:y.1=0
  ·simp only[if_pos w]
   rw[if_neg fun q=>hj q.1]
  ·simp only[if_neg w]
section
variable (Hh:Hearts K Tryz.prog)
include Hh
variable {n q a b c e:Nat} {cr:Cr} {md:Int} {S T:List Nat} {V:Nat→List Nat} {h:Go.Ev.H} {y:List C} {P:Nat→Nat} {bs:List Nat} {L:List (List Sl)} {R:Nat} {s:List UInt8}
theorem Zy7 (f:Ym a b c e=true) (M:HE n q a b c e cr md S T V h) {z i u:Nat} {ns:List Nat} {l:List Sl} (oz:Bp a b c e (z:Nat)=true) (zl:z<2+e+a * b) (zs:z∈S) (zt:z ∉ T) (Sv:SlV ns l) (hi:l[i]? = some sl0) (fi:∀ k y,k<i→l[k]? = some y→y.1≠0) (my:Vv s=true) (u0:0<u) (u1:u<4294967296) (ha:∀ y∈l,y.1≠0→y.2≠s) :
  ∃ h',Zg 37 [.c (.ptr (n+13) 0),.c (.int .i64 (z:Int)),.g (pgL ns),.c (.str s),.c (.int .u32 (u:Int))] h (.w (.c (.int .i64 0))) h'∧HE n q a b c e cr md S T (O9 V z (Xc ns i (u,s))) h'∧Kp n q h h':=by
 obtain⟨nq,nx,n0⟩:=M.nx
 have xl:(pgL ns).length=256:=by rw[Jy,Sv.vl]
 have al:=(Sv.add hi (x:=(u,s)) (.inr ⟨u0,u1,my⟩) ha (Zb3 my).2).vl
 have al2:(pgL (Xc ns i (u,s))).length=256:=by rw[Jy,al]
 have cA:=fun {h:Go.Ev.H} {p:Nat} (hp:h.get p=some (.row 256 [pgL ns] false)) (pl:p<h.next)=>Z53 Hh Sv hi fi my u0 u1 ha hp pl
 have cP:=fun {h:Go.Ev.H} (M:HE n q a b c e cr md S T V h)=>M.put f oz zl al zs zt
 obtain⟨X0,hX0⟩:∃ X,pgL ns=X:=⟨_,rfl⟩
 obtain⟨X1,hX1⟩:∃ X,pgL (Xc ns i (u,s))=X:=⟨_,rfl⟩
 rw[hX0] at xl ⊢
 rw[hX1] at al2
 simp only[hX0,hX1] at cA
 simp only[hX1] at cP
 obtain⟨V',hV⟩:∃ V',O9 V z (Xc ns i (u,s))=V':=⟨_,rfl⟩
 rw[hV]
 simp only[hV] at cP
 refine Ou ?_
 refine Yg Hh Tryz.f37 ?_
 have Jf:=@xl
 iterate 4 (first|apply Zk|refine Zq Hh Za O8 ?_)
 refine Uc fun hA eA=>?_
 have nA:hA.next=h.next+1:=by rw[eA]; first|rfl|simp only[H.Zd,H.Zb]
 have kA:∀ m,m<h.next→hA.get m=h.get m:=fun m hm=>by rw[eA]; exact Yc
 have gA:hA.get h.next=some (.row 256 [X0] false):=by rw[eA]; exact Z5
 clear eA
 obtain⟨hB,c1,gB,nB,kB⟩:=cA gA (by omega)
 have MB:=M.keep (h2:=hB) (by omega) fun m hm=>(kB m (by omega) (by omega)).trans (kA m (by omega))
 obtain⟨hC,eC,MC,nC,kC⟩:=cP MB
 have c4:=Mo Hh eC
 have Jf:=Jb Jf @gB @al2
 iterate 6 (first|apply Zk|apply Zw|refine Goes.Zi O8 ?_|refine Zq Hh (Zp Za c1) O8 ?_)
 iterate 2 (first|apply Z0|refine Zq Hh (Zp Za c4) O8 ?_)
 exact⟨_,_,Zc,rfl,MC,⟨by omega,fun m hm ho=>(kC m ho.1).trans ((kB m (by omega) (by omega)).trans (kA m hm))⟩⟩
structure AdI (R b1 p6:Nat) (bs:List Nat) (s:List UInt8) (A:List (Nat × Sl)) (t:Nat) (h:Go.Ev.H):Prop where
 c6:h.get p6=some (.row 1 [[.str s]] false)
 c13:h.get b1=some (.row 1 [[.ptr R 0]] false)
 c14:h.get (b1+1)=some (.row 1 [[.bool (thF s (A.take t))]] false)
 c15:h.get (b1+2)=some (.row 1 [[.int .i64 (frF bs (A.take t):Int)]] false)
 nx:b1+6≤h.next
theorem adA (lq:Nat) (ts:Zx) (i:Nat) (u:List C) (ul:u.length=2) (h:Go.Ev.H):Ye 105 (some lq) (q9 [1,1,1,1,1,1,0,1,2,5]) [] ((ts.set 43 (.w (.c (.int .i64 (i:Int))))).set 44 (.w (.g u))) h fun x ds' ts' h'=>x=.normal∧ds'=[]∧((∀ s,s≤15→Zh ts' s=Zh ts s)∧Zh ts' 16=.w (.c (.int .i64 (i:Int)))∧Zh ts' 17=.w (.c (.ptr h.next 0)))∧h'.next=h.next+1∧(∀ m,m<h.next→h'.get m=h.get m)∧h'.get h.next=some (.row 2 [u] false):=by
 have wr2:Z4 2 [[.int .u32 0,.str []]] 0 u=some [u]:=by
  match u,ul with
  | [u0,u1],_=>rfl
 have Jf:=Yy @ul @wr2
 iterate 3 (first|apply Zk|refine Zq Hh Za Z5 ?_)
 refine⟨rfl,rfl,⟨fun s hs=>?_,?_,?_⟩,?_,fun m hm=>?_,?_⟩
 ·simp (decide:=true) only [Yz hs]
 ·exact Zc
 ·exact Zc
 ·simp only[H.Zd,H.Zb]
 ·exact Yc
 ·first|exact Zz .. | (simp (maxSteps:=9^6) +decide (disch:=first|omega|(simp only[lens]<;>omega)|decide) only [go_sem,Zn,Zm,simprocAttr]; done)|(exact Zc)
theorem adB (yl:y.length=16) (M:HE n q a b c e cr md S T V h) {b1 p6 t i hb:Nat} {x:Sl} {A:List (Nat × Sl)} {ts:Zx} (bq:q+9≤p6) (b6:p6<R) (bR:R<b1) (at_:A[t]? = some (i,x)) (ib:i<bs.length) (nz:∀ p∈A,bs.getD p.1 0≠0) (t6:Zh ts 6=.w (.c (.ptr p6 0))) (t13:Zh ts 13=.w (.c (.ptr b1 0))) (t14:Zh ts 14=.w (.c (.ptr (b1+1) 0))) (t15:Zh ts 15=.w (.c (.ptr (b1+2) 0))) (t16:Zh ts 16=.w (.c (.int .i64 (i:Int)))) (t17:Zh ts 17=.w (.c (.ptr hb 0))) (gb:h.get hb=some (.row 2 [slC x] false)) (J:AdI R b1 p6 bs s A t h) (rd:RdS n y R (b1+5) (bs.take (i+1)) h) :
  Ye 105 (some (b1+5)) (q9 [1,1,1,1,1,1,0,1,2,6]) [] ts h fun x' _ _ h'=>x'=.normal∧h'.get (b1+5)=h.get (b1+5)∧AdI R b1 p6 bs s A (t+1) h'∧HE n q a b c e cr md S T V h'∧Kpr (b1+5) p6 [b1+1,b1+2] h h':=by
 obtain⟨c6,c13,c14,c15,nx⟩:=J
 have st:=Z0x s (A.take t) i x
 have sf:=Zpl (bs:=bs) (i:=i) (x:=x) (A:=A.take t) fun p hp=>nz p (List.mem_of_mem_take hp)
 rw[←Zew at_] at st sf
 obtain⟨z,hz⟩:∃ z,bs[i]? = some z:=⟨_,List.getElem?_eq_getElem ib⟩
 have hz':(bs.take (i+1))[i]? = some z:=by rw[List.getElem?_take_of_lt (by omega)]; exact hz
 have zz:bs.getD i 0=z:=by rw[List.getD_eq_getElem?_getD,hz]; rfl
 obtain⟨cs,R1,R2⟩:=rd
 obtain⟨q0,q1,q2,q3,q4,q5⟩:=Ej (n:=n) (s:=cs) (e:=0) yl
 obtain⟨p,rfl,gp,bp,pl⟩:∃ p,cs=.slice p 0 (bs.take (i+1)).length 1∧h.get p=some (.row 1 (rwI (bs.take (i+1))) false)∧b1+5+1≤p∧p<h.next:=by
  rcases R2.1 with ⟨w,_⟩|⟨p,a1,a2,a3⟩
  ·rw[w] at hz'; simp at hz'
  ·exact⟨p,a2,a3,(R2.2 _ _ _ _ a2).1,(R2.2 _ _ _ _ a2).2⟩
 have lt:(bs.take (i+1)).length=i+1:=by rw[List.length_take]; omega
 have rz:=rdI hz'
 rw[lt] at q2 R1 q0 q1 q3
 obtain⟨r0,hr0⟩:∃ r,rdC n y (.slice p 0 (i+1) 1) 0=r:=⟨_,rfl⟩
 rw[hr0] at R1 q2
 obtain⟨Bw,hB⟩:∃ B,rwI (bs.take (i+1))=B:=⟨_,rfl⟩
 rw[hB] at gp rz
 obtain⟨th,hth⟩:∃ w,thF s (A.take t)=w:=⟨_,rfl⟩
 obtain⟨fr,hfr⟩:∃ w,frF bs (A.take t)=w:=⟨_,rfl⟩
 rw[hth] at c14 st
 rw[hfr] at c15 sf
 obtain⟨xi,xn⟩:=x
 unfold slC at gb
 simp only at gb st sf
 by_cases x0:xi=0
 ·have e1:((xi:Int) != 0)=false:=by subst x0; rfl
  have st':thF s (A.take (t+1))=th:=by rw[st,x0]; simp
  by_cases f0:fr=0
  ·have e2:((fr:Int) == 0)=true:=by subst f0; rfl
   have sf':frF bs (A.take (t+1))=z:=by rw[sf,if_pos ⟨f0,x0⟩,zz]
   have Jf:=Yu @t13 @t14 @t15 @t16 @t17 @gb @c13 @c15 (Yu @e1 @e2 @R1 @q2 @gp @rz @rd20 @rd21 @Ff)
   iterate 8 (first|apply Zk|apply Yt|refine Goes.Zi Z5 ?_|refine Zq Hh Za Z5 ?_)
   refine⟨rfl,Ze (by omega),⟨?_,?_,?_,?_,?_⟩,M.keep (by rw[H.Zd]; omega) (fun m hm=>Ze (by omega)),by rw[H.Zd]; omega,fun m hm ml mA _=>Ze (fun w=>mA (by rw[w]; simp))⟩
   ·rw[Ze (by omega)]; exact c6
   ·rw[Ze (by omega)]; exact c13
   ·rw[Ze (by omega),st']; exact c14
   ·rw[sf']; exact Zz ..
   ·rw[H.Zd]; exact nx
  ·have e2:((fr:Int) == 0)=false:=Ee (by omega)
   have sf':frF bs (A.take (t+1))=fr:=by rw[sf,if_neg fun w=>f0 w.1]
   have Jf:=U1 @t13 @t14 @t15 @t16 (Yu @t17 @gb @c13 @c15 @e1 @e2 @rd20 @rd21 @Ff)
   iterate 8 (first|apply Zk|apply Zw|apply Yt|refine Goes.Zi Zj ?_|refine Zq Hh Za Zj ?_)
   exact⟨rfl,rfl,⟨c6,c13,by rw[st']; exact c14,by rw[sf']; exact c15,nx⟩,M,Nat.le_refl _,fun _ _ _ _ _=>rfl⟩
 ·have e1:((xi:Int) != 0)=true:=Mr (by omega)
  have sf':frF bs (A.take (t+1))=fr:=by rw[sf,if_neg fun w=>x0 w.2]
  have st':thF s (A.take (t+1))=(th || Uw xn s):=by rw[st,Nn x0]; rfl
  have fin:∀ w:Bool,(th || Uw xn s)=w→AdI R b1 p6 bs s A (t+1) (h.put (b1+1) (.row 1 [[.bool w]] false)):=fun w hw =>
   ⟨by rw[Ze (by omega)]; exact c6,by rw[Ze (by omega)]; exact c13,by rw[st',hw]; exact Zz ..,by rw[Ze (by omega),sf']; exact c15,by rw[H.Zd]; exact nx⟩
  cases ht:th with
  | true =>
   rw[ht] at c14
   have Jf:=M8 @t6 @t13 @t14 @t15 @t16 @t17 (Yu @gb @c6 @c13 @c14 @c15 @e1 @rd20 @rd21 @Ff)
   iterate 5 (first|apply Zk|apply Yt|refine Goes.Zi Zj ?_|refine Zq Hh Za Zj ?_)
   exact⟨rfl,Ze (by omega),fin true (by rw[ht]; rfl),M.keep (by rw[H.Zd]; omega) (fun m hm=>Ze (by omega)),by rw[H.Zd]; omega,fun m hm ml mA _=>Ze (fun w=>mA (by rw[w]; simp))⟩
  | false =>
   rw[ht] at c14
   cases he:Uw xn s with
   | true =>
    iterate 5 (first|apply Zk|apply Yt|((first|apply Goes.Zi|apply Goes.ops2 fits Hh Za); · simp (maxSteps:=9^6) +decide (disch:=first|omega|(simp only[lens]<;>omega)|decide) only [go_sem,Zn,Zm,simprocAttr,t6,t13,t14,t15,t16,t17,gb,c6,c13,c14,c15,e1,he,rd20,rd21,Ff,Tm]<;>rfl))
    exact⟨rfl,Ze (by omega),fin true (by rw[ht,he]; rfl),M.keep (by rw[H.Zd]; omega) (fun m hm=>Ze (by omega)),by rw[H.Zd]; omega,fun m hm ml mA _=>Ze (fun w=>mA (by rw[w]; simp))⟩
   | false =>
    iterate 5 (first|apply Zk|apply Yt|((first|apply Goes.Zi|apply Goes.ops2 fits Hh Za); · simp (maxSteps:=9^6) +decide (disch:=first|omega|(simp only[lens]<;>omega)|decide) only [go_sem,Zn,Zm,simprocAttr,t6,t13,t14,t15,t16,t17,gb,c6,c13,c14,c15,e1,he,rd20,rd21,Ff,Tm]<;>rfl))
    exact⟨rfl,Ze (by omega),fin false (by rw[ht,he]; rfl),M.keep (by rw[H.Zd]; omega) (fun m hm=>Ze (by omega)),by rw[H.Zd]; omega,fun m hm ml mA _=>Ze (fun w=>mA (by rw[w]; simp))⟩
end
section
variable (Hh:Hearts K Tryz.prog)
include Hh
variable {n q a b c e:Nat} {cr:Cr} {md:Int} {S T:List Nat} {V:Nat→List Nat} {h:Go.Ev.H} {Al:(Nat→List Nat)→Nat→Prop} {blk:Nat→Nat} {cap:Nat} {mt nk:Nat→Prop} {m:Nat}
theorem Ya9 (f:Ym a b c e=true) (m0:md≠0) (A:AlcW n q a b c e cr md S Al blk cap mt nk) (M:HE n q a b c e cr md S T V h) (al:Al V m) (mc:m<cap) (hT:∀ z,mt z→z ∉ T) (bT:blk m ∉ T) (b32:blk m<4096) {x:List C} {P:Nat→Nat} (X:InoP x P) {i:Nat} (hi:i<8) (z:P i=0) {near:Nat} (nr:nk near) :
  ∃ h',Zg 87 [.c (.ptr (n+13) 0),.g x,.c (.int .i64 (i:Int)),.c (.int .i64 (near:Int))] h (.tup [.g (x.set (4+i) (.int .u32 (blk m:Nat))),.c (.int .i64 (blk m:Nat)),.c (.bool true),.c (.int .i64 0)]) h'∧Kp n q h h'∧∃ V',HE n q a b c e cr md S T V' h'∧Al V' (m+1)∧∀ z,¬ mt z→z≠blk m→V' z=V z:=by
 have wd:=Zfy hi
 have EB:=Ybc Hh f m0 A M al mc hT bT b32 X (i:=i) (by omega) nr (r1:=blk m) (r2:=true) (R:=fun V'=>Al V' (m+1)∧∀ z,¬ mt z→z≠blk m→V' z=V z)
 rw[wd] at EB
 exact EB z (fun h1 s V1 M1 al1 v1 _ sl sb=>Z45 Hh M1 (fun h2 p4 p11 M2 n2 k2 a4 a11 b4 b11=>by
  obtain rfl:s=.snil:=by
   rcases sl with ⟨_,rfl⟩|⟨p,p1,_⟩
   ·rfl
   ·exact absurd p1 (by simp)
  exact⟨h2,Z0l Hh _ _,Kp.refl ..,V1,M2,al1,v1⟩))
theorem Z5g {near lv:Int} (c1:∃ h1,Zg 186 [.c (.ptr (n+13) 0),.c (.int .i64 near)] h (.tup [.c (.int .i64 0),.c (.int .i64 230)]) h1∧HE n q a b c e cr md S T V h1∧Kp n q h h1) :
  ∃ h',Zg 140 [.c (.ptr (n+13) 0),.c (.int .i64 lv),.c (.int .i64 near)] h (.tup [.c (.int .i64 0),.c (.int .i64 230)]) h'∧HE n q a b c e cr md S T V h'∧Kp n q h h':=by
 obtain⟨hA,c1,MA,kA⟩:=c1
 obtain⟨v,h',cc,rfl,rfl⟩:∃ v h',Zg 140 [.c (.ptr (n+13) 0),.c (.int .i64 lv),.c (.int .i64 near)] h v h'∧v=.tup [.c (.int .i64 0),.c (.int .i64 230)]∧h'=hA:=by
  refine Yg Hh Tryz.f140 ?_
  iterate 3 (first|apply Zk|refine Zq Hh Za Zc ?_)
  iterate 8 (first|apply Zk|apply Z0|refine Goes.Zi Zc ?_|refine Zq Hh (Zp Za c1) Zc ?_)
  exact⟨_,_,Zc,rfl,rfl⟩
 exact⟨_,cc,MA,kA⟩
theorem Z8r (f:Ym a b c e=true) (m0:md≠0) (M:HE n q a b c e cr md S T V h) {near:Nat} (no:∀ h,HE n q a b c e cr md S T V h→∃ h1,Zg 186 [.c (.ptr (n+13) 0),.c (.int .i64 (near:Int))] h (.tup [.c (.int .i64 0),.c (.int .i64 230)]) h1∧HE n q a b c e cr md S T V h1∧Kp n q h h1) {x:List C} {P:Nat→Nat} (X:InoP x P) {i:Nat} (hi:i<8) (z:P i=0) :
  ∃ h' x',Zg 87 [.c (.ptr (n+13) 0),.g x,.c (.int .i64 (i:Int)),.c (.int .i64 (near:Int))] h (.tup [.g x',.c (.int .i64 0),.c (.bool false),.c (.int .i64 230)]) h'∧x'.length=16∧HE n q a b c e cr md S T V h'∧Kp n q h h':=by
 obtain⟨nq,nx,n0⟩:=M.nx
 obtain⟨st,⟨kn,hs⟩,⟨dk,gl⟩,ht⟩:=M.cells
 unfold gdL gdD at gl
 have dm:(md != 0)=true:=Mr m0
 have wd:=Zfy hi
 have xl:=X.xl
 have rx:=X.rd (show i<11 by omega)
 have p11:i<11:=by omega
 rw[z] at rx
 have hO:=fun {h:Go.Ev.H} (h0:0<h.next)=>Z9t Hh (i:=i) (by omega) (h:=h) h0
 rw[wd] at hO
 simp only at hO
 have ez:(((0:Nat):Int) == 0)=true:=rfl
 obtain⟨v,h',cc,x',rfl,x16,qq⟩:∃ v h',Zg 87 [.c (.ptr (n+13) 0),.g x,.c (.int .i64 (i:Int)),.c (.int .i64 (near:Int))] h v h'∧∃ x',v=.tup [.g x',.c (.int .i64 0),.c (.bool false),.c (.int .i64 230)]∧x'.length=16∧HE n q a b c e cr md S T V h'∧Kp n q h h':=by
  refine Yg Hh Tryz.f87 ?_
  have Jf:=Yu @f @hs @gl @ht @dm @xl @rx @p11 @ez
  iterate 8 (first|apply Zk|apply Zw|refine Goes.Zi Yb ?_|refine Zq Hh (EY Za (Zed Hh)) Yb ?_)
  refine Uc fun hA eA=>?_
  have nA:hA.next=h.next+2:=by rw[eA]; simp only[H.Zd,H.Zb]
  have kA:∀ m,m<h.next→hA.get m=h.get m:=fun m hm=>by rw[eA]; exact Yc
  have b5:hA.get h.next=some (.row 16 [x] false):=by rw[eA]; exact Z5
  obtain⟨y,yl,b8⟩:∃ y:List C,y.length=16∧hA.get (h.next+1)=some (.row 16 [y] false):=⟨_,rfl,by rw[eA]; exact Yn⟩
  clear eA
  obtain⟨hB,s,c3,nB,kB,sB,lB⟩:=hO (h:=hA) (by omega)
  have B5:=(kB h.next (by omega)).trans b5
  have B8:=(kB (h.next+1) (by omega)).trans b8
  have MB:=M.keep (h2:=hB) (by omega) (fun m hm=>(kB m (by omega)).trans (kA m (by omega)))
  obtain⟨_,⟨knB,hsB⟩,⟨dkB,glB⟩,htB⟩:=MB.cells
  unfold gdL gdD at glB
  obtain⟨lf,ln⟩:=Z84 sB
  have Jf:=Yu Jf @B5 @B8 @yl @hsB @glB @htB @lf @ln
  iterate 8 (first|apply Zk|apply Zw|refine Goes.Zi Yb ?_|refine Zq Hh (Zp Za c3) Yb ?_)
  iterate 15 (first|apply Zk|apply Zw|refine Goes.Zi Yb ?_|refine Zq Hh (EY Za (Zln Hh)) Yb ?_)
  refine Uc fun hC eC=>?_
  have nC:hC.next=hB.next:=by rw[eC]; simp only[H.Zd]
  have kC:∀ m,m<hB.next→m≠h.next+1→hC.get m=hB.get m:=fun m hm hne=>by rw[eC]; exact Yc
  have C8:hC.get (h.next+1)=some (.row 16 [x] false):=by rw[eC]; exact Z5
  clear eC
  have MC:=MB.keep (h2:=hC) (by omega) (fun m hm=>kC m (by omega) (by omega))
  obtain⟨hE,c12,ME,kE⟩:=Z5g Hh (lv:=((([]:List Nat).length:Nat):Int)) (no hC MC)
  have nE:=kE.1
  have E8:=(kE.2 (h.next+1) (by omega) ⟨⟨by omega,by omega,by omega,by omega,by omega⟩,by omega⟩).trans C8
  have Jf:=Yy Jf @E8
  iterate 7 (first|apply Zk|apply Z0|refine Goes.Zi Yb ?_|refine Zq Hh (Zp Za c12) Yb ?_)
  refine⟨_,_,Z5,_,rfl,rfl,ME.keep ?_ fun m hm=>?_,⟨?_,fun m hm ho=>?_⟩⟩
  ·first|omega|(simp only[H.Zd,H.Zb]<;>omega)
  ·exact Yc
  ·first|omega|(simp only[H.Zd,H.Zb]<;>omega)
  ·refine Eq.trans ?_ ((kE.2 m (by omega) ho).trans ((kC m (by omega) (by omega)).trans ((kB m (by omega)).trans (kA m hm)))); exact Yc
 exact⟨h',x',cc,x16,qq⟩
end
theorem Zf1 {a b c e:Nat} {V:Nat→List Nat} {z:Nat} {x:List Nat} (ne:∀ j,j<a * c→Y1 b c e j≠z) (i:Int):gI a b c e (O9 V z x) i=gI a b c e V i:=by
 unfold gI
 by_cases h:1≤i∧i≤((a * c:Nat):Int)
 ·rw[if_pos h,if_pos h,J6 (ne _ (by omega))]
 ·rw[if_neg h,if_neg h]
theorem Zv3 {a b c e j k l g s p0 p1 p2 p3 p4 p5 p6 p7 p8 p9 p10 nx:Nat} {V:Nat→List Nat} (jl:j<a * c) (sl:(V (Y1 b c e j)).length=256) (kb:k<256) (lb:l<65536) (gb:g<4294967296) (sb:s<4294967296) (pb:∀ v∈[p0,p1,p2,p3,p4,p5,p6,p7,p8,p9,p10],v<4294967296) (nb:nx<4294967296) (hm:Zif k l s p0 p1 p2 p3 p4 p5 p6 p7 p8 p9 p10 nx=true) :
  gI a b c e (O9 V (Y1 b c e j) (Ec (V (Y1 b c e j)) (D9 c j) k l g s [p0,p1,p2,p3,p4,p5,p6,p7,p8,p9,p10] nx)) ((j+1:Nat):Int)=(Nc k l g s p0 p1 p2 p3 p4 p5 p6 p7 p8 p9 p10 nx,0):=by
 have pc:=Ra c j
 unfold gI
 rw[if_pos ⟨by omega,by omega⟩,show ((j+1:Nat):Int).toNat - 1=j by omega,Bl,Z14 (by omega) kb lb gb sb pb nb hm]
theorem Zvb {a b c e i j k l g s nx:Nat} {ps:List Nat} {V:Nat→List Nat} (F:Fine a b c e) (sl:(V (Y1 b c e j)).length=256) (ne:i≠j) (pl:ps.length=11) :
  gI a b c e (O9 V (Y1 b c e j) (Ec (V (Y1 b c e j)) (D9 c j) k l g s ps nx)) ((i+1:Nat):Int)=gI a b c e V ((i+1:Nat):Int):=by
 unfold gI
 by_cases h:1≤((i+1:Nat):Int)∧((i+1:Nat):Int)≤((a * c:Nat):Int)
 ·rw[if_pos h,if_pos h,show ((i+1:Nat):Int).toNat - 1=i by omega]
  by_cases q:Y1 b c e i=Y1 b c e j
  ·have p:=Z22 F ne q
   have c1:=Ra c j
   have c2:=Ra c i
   rw[q,Bl,Zp4 (by rw[sl]; omega) (by rw[sl]; omega) pl (by omega)]
  ·rw[J6 q]
 ·rw[if_neg h,if_neg h]
theorem Zoh {a b c e:Nat} (F:Fine a b c e) {z:Nat} (hz:z<2+e∨∃ k,z=2+e+k * b+1∨z=2+e+k * b):∀ j,j<a * c→Y1 b c e j≠z:=fun j hj q=>by
 obtain⟨g1,g2,g3,g4,g5,g6,g7,g8,g9,g10,g11⟩:=F
 have tc:j % c<c:=Nat.mod_lt _ (by omega)
 unfold Y1 at q
 rcases hz with hz|⟨k,hz⟩
 ·omega
 ·have:j / c=k∨j / c<k∨k<j / c:=by omega
  rcases this with h1|h1|h1
  ·rw[h1] at q; omega
  ·have:=Nat.mul_le_mul_right b (Nat.succ_le_of_lt h1)
   rw[Nat.succ_mul] at this
   omega
  ·have:=Nat.mul_le_mul_right b (Nat.succ_le_of_lt h1)
   rw[Nat.succ_mul] at this
   omega
theorem rs35:Tryz.f35.results.toList=[.tmp 10]:=rfl
attribute [go_sem] rs35
def Fa (k l g s:Nat) (P:Nat→Nat) (nx:Nat):List C:=Nc k l g s (P 0) (P 1) (P 2) (P 3) (P 4) (P 5) (P 6) (P 7) (P 8) (P 9) (P 10) nx
theorem Ty (k l g s:Nat) (P:Nat→Nat) (nx:Nat):(Fa k l g s P nx).length=16:=rfl
theorem Z1q {k l g s:Nat} {P:Nat→Nat} {nx i v:Nat} (h:i<11):(Fa k l g s P nx).set (4+i) (.int .u32 (v:Nat))=Fa k l g s (U5 P i v) nx:=by
 match i,h with
 | 0,_=>rfl
 | 1,_=>rfl
 | 2,_=>rfl
 | 3,_=>rfl
 | 4,_=>rfl
 | 5,_=>rfl
 | 6,_=>rfl
 | 7,_=>rfl
 | 8,_=>rfl
 | 9,_=>rfl
 | 10,_=>rfl
theorem Ti {k l g s:Nat} {P:Nat→Nat} {nx:Nat} (h:∀ i,i<11→P i<4294967296):InoP (Fa k l g s P nx) P:=by
 refine⟨rfl,fun i hi=>?_,h⟩
 match i,hi with
 | 0,_=>rfl
 | 1,_=>rfl
 | 2,_=>rfl
 | 3,_=>rfl
 | 4,_=>rfl
 | 5,_=>rfl
 | 6,_=>rfl
 | 7,_=>rfl
 | 8,_=>rfl
 | 9,_=>rfl
 | 10,_=>rfl
theorem Znh (k l g s:Nat) (P:Nat→Nat) (nx:Nat):read1 16 [Fa k l g s P nx] 3=some (.int .i64 (s:Int)):=rfl
theorem Z51 (k l g s s':Nat) (P:Nat→Nat) (nx:Nat):Z4 16 [Fa k l g s P nx] 3 [.int .i64 (s':Int)]=some [Fa k l g s' P nx]:=rfl
theorem Z3c {s:Nat} (h:s % 256=0) (h2:s≤4096) (p0 p1 p2 p3 p4 p5 p6 p7 p8 p9 p10:Nat):Zif (2:Nat) (1:Nat) (s:Nat) p0 p1 p2 p3 p4 p5 p6 p7 p8 p9 p10 (0:Nat)=true:=by
 have e:decide (((2:Nat):Int)=0)=false:=rfl
 have e2:decide (((2:Nat):Int)=2)=true:=rfl
 have e3:decide (((1:Nat):Int)=1)=true:=rfl
 have e4:decide ((s:Int) % 256=0)=true:=decide_eq_true (by omega)
 have e5:decide (((0:Nat):Int)=0)=true:=rfl
 have e6:Nv ((1:Nat):Int) (s:Int)=true:=by
  unfold Nv
  rw[decide_eq_true (show (0:Int)≤((1:Nat):Int) by omega),decide_eq_true (show ((1:Nat):Int)≤1000 by omega),decide_eq_true (show (0:Int)≤(s:Int) by omega),decide_eq_true (show (s:Int)≤16777216 by omega)]
  rfl
 unfold Zif
 rw[e,cond_false,e2,cond_true,e3,e4,e5,e6]
 rfl
theorem Z4y {a b c e:Nat} {V V':Nat→List Nat} (h:∀ i,i<a * c→V' (Y1 b c e i)=V (Y1 b c e i)) (z:Int):gI a b c e V' z=gI a b c e V z:=by
 unfold gI
 by_cases w:1≤z∧z≤((a * c:Nat):Int)
 ·rw[if_pos w,if_pos w,h _ (by omega)]
 ·rw[if_neg w,if_neg w]
section
variable (Hh:Hearts K Tryz.prog)
include Hh
variable {n q a b c e:Nat} {cr:Cr} {md:Int} {S:List Nat} {V:Nat→List Nat} {h:Go.Ev.H} {P:Nat→Nat} {s:List UInt8} {Al:(Nat→List Nat)→Nat→Prop} {blk:Nat→Nat} {cap:Nat} {mt nk:Nat→Prop} {m:Nat}
theorem Z3w (f:Ym a b c e=true) (m0:md≠0) (A:AlcW n q a b c e cr md S Al blk cap mt nk) (M:HE n q a b c e cr md S [] V h) (al:Al V m) (mc:m<cap) (b32:blk m<4096) (mtI:∀ i,i<a * c→¬ mt (Y1 b c e i)) (bI:∀ i,i<a * c→Y1 b c e i≠blk m) {j g nb u:Nat} (jl:j<a * c) (js:Y1 b c e j∈S) (nr:nk (Y1 b c e j)) (gb:g<4294967296) (n8:nb<8) (pz:P nb=0) (pb:∀ i,i<11→P i<4294967296) (my:Vv s=true) (u0:0<u) (u1:u<4294967296) :
  ∃ h' V',Zg 35 [.c (.ptr (n+13) 0),.c (.int .i64 ((j+1:Nat):Int)),.g (Fa 2 1 g (256 * nb) P 0),.c (.str s),.c (.int .u32 (u:Int))] h (.w (.c (.int .i64 0))) h'∧HE n q a b c e cr md S [] V' h'∧Kp n q h h'∧Al V' (m+1)∧V' (blk m)=Xc zer0 0 (u,s)∧gI a b c e V' ((j+1:Nat):Int)=(Fa 2 1 g (256 * (nb+1)) (U5 P nb (blk m)) 0,0)∧(∀ i,i≠j→gI a b c e V' ((i+1:Nat):Int)=gI a b c e V ((i+1:Nat):Int))∧∀ w,¬ mt w→w≠blk m→w≠Y1 b c e j→V' w=V w:=by
 obtain⟨nq,nx,n0⟩:=M.nx
 have FF:=Zv f
 obtain⟨st,⟨kn,hs⟩,⟨dk,gl⟩,ht⟩:=M.cells
 unfold gdL gdD at gl
 obtain⟨o1,o2,o3,o4,o5⟩:=A.ours m mc
 have hE:=fun {h:Go.Ev.H} (M:HE n q a b c e cr md S [] V h)=>Ya9 Hh f m0 A M al mc (fun z _=>List.not_mem_nil) List.not_mem_nil b32 (x:=Fa 2 1 g (256 * nb) P 0) (Ti pb) n8 pz nr
 rw[Z1q (show nb<11 by omega)] at hE
 have hW:=fun (V1:Nat→List Nat) {h:Go.Ev.H} (M:HE n q a b c e cr md S [] V1 h)=>Zy7 Hh f M (z:=blk m) o1 o2 o5 List.not_mem_nil (ns:=zer0) (l:=sl8) (i:=0) Yb1 rfl (fun k y hk=>absurd hk (by omega)) my u0 u1 (fun y hy y0=>by
  rw[List.eq_of_mem_replicate hy] at y0
  exact absurd rfl y0)
 rw[Zv0] at hW
 have pb':∀ i,i<11→U5 P nb (blk m) i<4294967296:=fun i hi=>by
  unfold U5
  split
  ·omega
  ·exact pb i hi
 have hI:=fun (V2:Nat→List Nat) {h:Go.Ev.H} (M:HE n q a b c e cr md S [] V2 h)=>Yan Hh f M jl js List.not_mem_nil (k:=2) (l:=1) (g:=g) (s:=256 * (nb+1)) (p0:=U5 P nb (blk m) 0) (p1:=U5 P nb (blk m) 1) (p2:=U5 P nb (blk m) 2) (p3:=U5 P nb (blk m) 3) (p4:=U5 P nb (blk m) 4) (p5:=U5 P nb (blk m) 5) (p6:=U5 P nb (blk m) 6) (p7:=U5 P nb (blk m) 7) (p8:=U5 P nb (blk m) 8) (p9:=U5 P nb (blk m) 9) (p10:=U5 P nb (blk m) 10) (nx:=0) (by omega) (by omega) gb (by omega) (fun v hv=>by
  simp only[List.mem_cons,List.not_mem_nil,or_false] at hv
  rcases hv with rfl|rfl|rfl|rfl|rfl|rfl|rfl|rfl|rfl|rfl|rfl<;>exact pb' _ (by omega)) (by omega) (Z3c (by omega) (by omega) _ _ _ _ _ _ _ _ _ _ _)
 have ei:∀ s,Nc ((2:Nat):Int) ((1:Nat):Int) (g:Int) ((s:Nat):Int) (U5 P nb (blk m) 0:Nat) (U5 P nb (blk m) 1:Nat) (U5 P nb (blk m) 2:Nat) (U5 P nb (blk m) 3:Nat) (U5 P nb (blk m) 4:Nat) (U5 P nb (blk m) 5:Nat) (U5 P nb (blk m) 6:Nat) (U5 P nb (blk m) 7:Nat) (U5 P nb (blk m) 8:Nat) (U5 P nb (blk m) 9:Nat) (U5 P nb (blk m) 10:Nat) ((0:Nat):Int)=Fa 2 1 g s (U5 P nb (blk m)) 0:=fun _=>rfl
 simp only[ei] at hI
 have rs0:=Znh 2 1 g (256 * nb) P 0
 have rs1:=Znh 2 1 g (256 * nb) (U5 P nb (blk m)) 0
 have ws1:=Z51 2 1 g (256 * nb) (256 * (nb+1)) (U5 P nb (blk m)) 0
 have l0:=Ty 2 1 g (256 * nb) P 0
 have l1:=Ty 2 1 g (256 * nb) (U5 P nb (blk m)) 0
 have l2:=Ty 2 1 g (256 * (nb+1)) (U5 P nb (blk m)) 0
 have t1:((j+1:Nat):Int).toNat - 1=j:=by omega
 have d1:decide (1≤((j+1:Nat):Int))=true:=decide_eq_true (by omega)
 have d2:decide (((j+1:Nat):Int)≤((a * c:Nat):Int))=true:=decide_eq_true (by omega)
 obtain⟨y2,hy2⟩:∃ y,Fa 2 1 g (256 * (nb+1)) (U5 P nb (blk m)) 0=y:=⟨_,rfl⟩
 obtain⟨y1,hy1⟩:∃ y,Fa 2 1 g (256 * nb) (U5 P nb (blk m)) 0=y:=⟨_,rfl⟩
 obtain⟨y0,hy0⟩:∃ y,Fa 2 1 g (256 * nb) P 0=y:=⟨_,rfl⟩
 rw[hy0] at rs0 l0 ⊢
 rw[hy1] at rs1 ws1 l1
 rw[hy2] at ws1 l2
 simp only[hy0,hy1] at hE
 simp only[hy2] at hI
 obtain⟨N,hN⟩:∃ N,256 * nb=N:=⟨_,rfl⟩
 have dv:N / 256=nb:=by omega
 have ad:(N:Int)+256=((256 * (nb+1):Nat):Int):=by omega
 rw[hN] at rs0 rs1
 have nlo:N<9223372036854775808:=by omega
 obtain⟨V1,hB,c2,kB,MB,alB,vB⟩:∃ V1 h',Zg 87 [.c (.ptr (n+13) 0),.g y0,.c (.int .i64 (nb:Int)),.c (.int .i64 (Y1 b c e j:Nat))] (h.new (.row 16 [y0] false)) (.tup [.g y1,.c (.int .i64 (blk m:Nat)),.c (.bool true),.c (.int .i64 0)]) h'∧Kp n q (h.new (.row 16 [y0] false)) h'∧HE n q a b c e cr md S [] V1 h'∧Al V1 (m+1)∧∀ z,¬ mt z→z≠blk m→V1 z=V z:=by
  obtain⟨h',c2,k2,V1,M1,a1,v1⟩:=hE (M.keep (h2:=h.new (.row 16 [y0] false)) (by rw[H.Zb]; omega) fun m hm=>Z8 (by omega))
  exact⟨V1,h',c2,k2,M1,a1,v1⟩
 have mbj:Y1 b c e j≠blk m:=bI j jl
 have vj:=vB _ (mtI j jl) mbj
 obtain⟨V2,hV2⟩:∃ V2,O9 V1 (blk m) (Xc zer0 0 (u,s))=V2:=⟨_,rfl⟩
 have v2j:V2 (Y1 b c e j)=V (Y1 b c e j):=by rw[←hV2,J6 mbj]; exact vj
 have hW:=fun {h:Go.Ev.H} (M:HE n q a b c e cr md S [] V1 h)=>hW V1 M
 simp only[hV2] at hW
 have hI:=fun {h:Go.Ev.H} (M:HE n q a b c e cr md S [] V2 h)=>hI V2 M
 obtain⟨V3,hV3⟩:∃ V3,O9 V2 (Y1 b c e j) (Ec (V2 (Y1 b c e j)) (D9 c j) 2 1 g (256 * (nb+1)) [U5 P nb (blk m) 0,U5 P nb (blk m) 1,U5 P nb (blk m) 2,U5 P nb (blk m) 3,U5 P nb (blk m) 4,U5 P nb (blk m) 5,U5 P nb (blk m) 6,U5 P nb (blk m) 7,U5 P nb (blk m) 8,U5 P nb (blk m) 9,U5 P nb (blk m) 10] 0)=V3:=⟨_,rfl⟩
 simp only[hV3] at hI
 have slj:(V (Y1 b c e j)).length=256:=by
  obtain⟨g1,g2,g3,g4,g5,g6,g7,g8,g9,g10,g11⟩:=FF
  have ka:j / c<a:=Nat.div_lt_of_lt_mul (by rw[Nat.mul_comm]; omega)
  have tc:j % c<c:=Nat.mod_lt _ (by omega)
  have st:=Jp (b:=b) ka
  exact M.len (Dx (Zv f) (by unfold Y1; omega) (by unfold Y1; omega)) (by unfold Y1; omega)
 have fin:Al V3 (m+1)∧V3 (blk m)=Xc zer0 0 (u,s)∧gI a b c e V3 ((j+1:Nat):Int)=(y2,0)∧(∀ i,i≠j→gI a b c e V3 ((i+1:Nat):Int)=gI a b c e V ((i+1:Nat):Int))∧∀ w,¬ mt w→w≠blk m→w≠Y1 b c e j→V3 w=V w:=by
  have g0:=Z4y (a:=a) (b:=b) (c:=c) (e:=e) (V:=V) (V':=V1) fun i hi=>vB _ (mtI i hi) (bI i hi)
  have g1:∀ z,gI a b c e V2 z=gI a b c e V1 z:=fun z=>by rw[←hV2]; exact Zf1 bI z
  refine⟨?_,?_,?_,fun i ne=>?_,fun w w1 w2 w3=>?_⟩
  ·rw[←hV3,←hV2]
   exact A.upd (A.upd alB o4) (mtI j jl)
  ·rw[←hV3,J6 (Ne.symm mbj),←hV2,Bl]
  ·rw[←hV3,←hy2]
   exact Zv3 jl (by rw[v2j]; exact slj) (by omega) (by omega) gb (by omega) (fun v hv=>by
    simp only[List.mem_cons,List.not_mem_nil,or_false] at hv
    rcases hv with rfl|rfl|rfl|rfl|rfl|rfl|rfl|rfl|rfl|rfl|rfl<;>exact pb' _ (by omega)) (by omega) (Z3c (by omega) (by omega) _ _ _ _ _ _ _ _ _ _ _)
  ·rw[←hV3,Zvb FF (by rw[v2j]; exact slj) ne rfl,g1,g0]
  ·rw[←hV3,J6 w3,←hV2,J6 w2]
   exact vB w w1 w2
 obtain⟨nr',hnr⟩:∃ w,Y1 b c e j=w:=⟨_,rfl⟩
 rw[hnr] at c2
 unfold Y1 at hnr
 obtain⟨v,h',cc,rfl,M',k'⟩:∃ v h',Zg 35 [.c (.ptr (n+13) 0),.c (.int .i64 ((j+1:Nat):Int)),.g y0,.c (.str s),.c (.int .u32 (u:Int))] h v h'∧v=.w (.c (.int .i64 0))∧HE n q a b c e cr md S [] V3 h'∧Kp n q h h':=by
  refine Yg Hh Tryz.f35 ?_
  have Jf:=Vu @f @hs @gl @t1 @d1 @d2 @hnr (Yu @l0 @l1 @l2 @rs0 @rs1 @ws1 @dv @ad @nlo)
  iterate 5 (first|apply Zk|refine Zq Hh (EY (EY Za (Jh Hh)) (Et Hh)) Yb ?_)
  iterate 13 (first|apply Zk|apply Zw|refine Goes.Zi Yb ?_|refine Zq Hh (Zp Za c2) Yb ?_)
  refine Uc fun hC eC=>?_
  have nB:=kB.1
  rw[H.Zb] at nB
  have nC:hC.next=hB.next+1:=by rw[eC]; simp only[H.Zd,H.Zb]
  have kC:∀ m,m<hB.next→hC.get m=hB.get m:=fun m hm=>by rw[eC]; exact Yc
  have gC:hC.get hB.next=some (.row 16 [y1] false):=by rw[eC]; exact Z5
  clear eC
  have MC:=MB.keep (h2:=hC) (by omega) fun m hm=>kC m (by have:=MB.nx; omega)
  obtain⟨hD,c7,MD,kD⟩:=hW MC
  have nD:=kD.1
  have gD:=(kD.2 hB.next (by omega) ⟨⟨by omega,by omega,by omega,by omega,by omega⟩,by omega⟩).trans gC
  have Jf:=Yy Jf @gD
  iterate 8 (first|apply Zk|apply Zw|refine Goes.Zi Yb ?_|refine Zq Hh (Zp Za c7) Yb ?_)
  refine Uc fun hE' eE=>?_
  have nE:hE'.next=hD.next:=by rw[eE,H.Zd]
  have kE:∀ m,m≠hB.next→hE'.get m=hD.get m:=fun m hm=>by rw[eE,Ze hm]
  have gE:hE'.get hB.next=some (.row 16 [y2] false):=by rw[eE,Zz]
  clear eE
  have ME:=MD.keep (h2:=hE') (by omega) fun m hm=>kE m (by have:=MB.nx; omega)
  obtain⟨hF,c11,MF,kF⟩:=hI ME
  have Jf:=Yy Jf @gE
  iterate 2 (first|apply Z0|refine Zq Hh (Zp Za c11) Yb ?_)
  exact⟨_,_,Zc,rfl,MF,⟨by have:=kF.1; omega,fun m hm ho=>(kF.2 m (by omega) ho).trans ((kE m (by omega)).trans ((kD.2 m (by omega) ho).trans ((kC m (by omega)).trans ((kB.2 m (by rw[H.Zb]; omega) ho).trans (Z8 (by omega))))))⟩⟩
 rw[←hy2] at fin
 exact⟨h',V3,cc,M',k',fin⟩
theorem Z1i (f:Ym a b c e=true) (m0:md≠0) (M:HE n q a b c e cr md S [] V h) {j g nb u:Nat} (jl:j<a * c) (no:∀ h,HE n q a b c e cr md S [] V h→∃ h1,Zg 186 [.c (.ptr (n+13) 0),.c (.int .i64 (Y1 b c e j:Nat))] h (.tup [.c (.int .i64 0),.c (.int .i64 230)]) h1∧HE n q a b c e cr md S [] V h1∧Kp n q h h1) (n8:nb<8) (pz:P nb=0) (pb:∀ i,i<11→P i<4294967296) :
  ∃ h',Zg 35 [.c (.ptr (n+13) 0),.c (.int .i64 ((j+1:Nat):Int)),.g (Fa 2 1 g (256 * nb) P 0),.c (.str s),.c (.int .u32 (u:Int))] h (.w (.c (.int .i64 230))) h'∧HE n q a b c e cr md S [] V h'∧Kp n q h h':=by
 obtain⟨nq,nx,n0⟩:=M.nx
 obtain⟨st,⟨kn,hs⟩,⟨dk,gl⟩,ht⟩:=M.cells
 unfold gdL gdD at gl
 have rs0:=Znh 2 1 g (256 * nb) P 0
 have l0:=Ty 2 1 g (256 * nb) P 0
 have t1:((j+1:Nat):Int).toNat - 1=j:=by omega
 have d1:decide (1≤((j+1:Nat):Int))=true:=decide_eq_true (by omega)
 have d2:decide (((j+1:Nat):Int)≤((a * c:Nat):Int))=true:=decide_eq_true (by omega)
 obtain⟨hB,x',c2,x16,MB,kB⟩:=Z8r Hh f m0 (M.keep (h2:=h.new (.row 16 [Fa 2 1 g (256 * nb) P 0] false)) (by rw[H.Zb]; omega) fun m hm=>Z8 (by omega)) no (x:=Fa 2 1 g (256 * nb) P 0) (Ti pb) n8 pz
 obtain⟨y0,hy0⟩:∃ y,Fa 2 1 g (256 * nb) P 0=y:=⟨_,rfl⟩
 rw[hy0] at rs0 l0 c2 kB ⊢
 obtain⟨N,hN⟩:∃ N,256 * nb=N:=⟨_,rfl⟩
 have dv:N / 256=nb:=by omega
 rw[hN] at rs0
 have nlo:N<9223372036854775808:=by omega
 have nB:=kB.1
 rw[H.Zb] at nB
 obtain⟨nr',hnr⟩:∃ w,Y1 b c e j=w:=⟨_,rfl⟩
 rw[hnr] at c2
 unfold Y1 at hnr
 refine Ou ?_
 refine Yg Hh Tryz.f35 ?_
 have Jf:=Uq @f @hs @gl (Yu @t1 @d1 @d2 @hnr @l0 @x16 @rs0 @dv @nlo)
 iterate 5 (first|apply Zk|refine Zq Hh (EY (EY Za (Jh Hh)) (Et Hh)) Yb ?_)
 iterate 8 (first|apply Zk|apply Z0|refine Goes.Zi Yb ?_|refine Zq Hh (Zp Za c2) Yb ?_)
 refine⟨_,_,Zc,rfl,MB.keep ?_ fun m hm=>?_,⟨?_,fun m hm ho=>?_⟩⟩
 ·simp only[H.Zd,H.Zb]; omega
 ·exact Yc
 ·simp only[H.Zd,H.Zb]; omega
 ·refine Eq.trans ?_ ((kB.2 m (by rw[H.Zb]; omega) ho).trans (Z8 (by omega))); exact Yc
end
structure DirS (a b c e:Nat) (V:Nat→List Nat) (j g:Nat) (P:Nat→Nat) (bs:List Nat) (L:List (List Sl)):Prop where
 gz:gI a b c e V ((j+1:Nat):Int)=(Fa 2 1 g (256 * bs.length) P 0,0)
 jl:j<a * c
 gb:g<4294967296
 pb:∀ i,i<11→P i<4294967296
 void:∀ i,bs.length≤i→i<11→P i=0
 db:DirB a b c e V P bs L
 nd:bs.Nodup
 dat:∀ z∈bs,∀ i,i<a * c→Y1 b c e i≠z
theorem DirS.o {a b c e:Nat} {V:Nat→List Nat} {j g:Nat} {P:Nat→Nat} {bs:List Nat} {L:List (List Sl)} (D:DirS a b c e V j g P bs L):DirO a b c e V ((j+1:Nat):Int) (Fa 2 1 g (256 * bs.length) P 0) P bs L :=
 ⟨D.gz,rfl,Ti D.pb,rfl,D.db⟩
section
variable (Hh:Hearts K Tryz.prog)
include Hh
variable {n q a b c e:Nat} {cr:Cr} {md:Int} {S:List Nat} {V:Nat→List Nat} {h:Go.Ev.H} {y:List C} {P:Nat→Nat} {bs:List Nat} {L:List (List Sl)} {R:Nat} {s:List UInt8}
omit Hh in
theorem DirB.nz (D:DirB a b c e V P bs L):∀ p∈Jn L,bs.getD p.1 0≠0:=by
 have key:∀ (L:List (List Sl)) (j:Nat),∀ p∈L9 j L,j≤p.1∧p.1<j+L.length:=fun L=>by
  induction L with
  | nil=>intro j p hp; simp [L9] at hp
  | cons l r ih =>
   intro j p hp
   unfold L9 at hp
   rcases List.mem_append.1 hp with w|w
   ·obtain⟨x,hx,rfl⟩:=List.mem_map.1 w
    rw[List.length_cons]
    exact⟨Nat.le_refl _,by show j<_; omega⟩
   ·have:=ih (j+1) p w
    rw[List.length_cons]
    omega
 intro p hp
 have k:=key L 0 p hp
 have ll:=D.ll
 have hz:bs[p.1]? = some bs[p.1]:=List.getElem?_eq_getElem (by omega)
 rw[List.getD_eq_getElem?_getD,hz]
 exact (D.at_ p.1 _ hz).2.1
theorem Zl7 (f:Ym a b c e=true) (m0:md≠0) {hC:Go.Ev.H} {ts:Zx} {b1 p6:Nat} (nC:hC.next=b1+4) (bq:q+9≤p6) (b6:p6<R) (bR:R<b1) (X:InoP y P) (D:DirB a b c e V P bs L) (y3:y[3]? = some (.int .i64 ((256 * bs.length:Nat):Int))) (M:HE n q a b c e cr md S [] V hC)
  (hR:hC.get R=some (.row 19 [rdC n y .snil 0] false)) (a6:hC.get p6=some (.row 1 [[.str s]] false)) (a13:hC.get b1=some (.row 1 [[.ptr R 0]] false)) (a14:hC.get (b1+1)=some (.row 1 [[.bool false]] false)) (a15:hC.get (b1+2)=some (.row 1 [[.int .i64 0]] false)) (a7:hC.get (b1+3)=some (.row 1 [[.ptr R 0]] false))
  (t6:Zh ts 6=.w (.c (.ptr p6 0))) (t13:Zh ts 13=.w (.c (.ptr b1 0))) (t14:Zh ts 14=.w (.c (.ptr (b1+1) 0))) (t15:Zh ts 15=.w (.c (.ptr (b1+2) 0))) (t42:Zh ts 42=.w (.c (.fn 85 [] [some (b1+3,0)]))) :
  Ye 105 none (q9 [1,1,1,1,1,1,0,1,2]) [] ts hC fun x' ds' ts' h'=>x'=.normal∧ts'=ts∧ds'=[b1+4]∧h'.get (b1+4)=some .defers∧h'.get p6=some (.row 1 [[.str s]] false)∧h'.get b1=some (.row 1 [[.ptr R 0]] false)∧h'.get (b1+1)=some (.row 1 [[.bool (thF s (Jn L))]] false)∧h'.get (b1+2)=some (.row 1 [[.int .i64 (frF bs (Jn L):Int)]] false)∧HE n q a b c e cr md S [] V h'∧(∃ cs,h'.get R=some (.row 19 [rdC n y cs 0] false))∧b1+6≤h'.next∧∀ m,m<p6→m≠n+6→h'.get m=hC.get m:=by
 obtain⟨nq,nx,n0⟩:=M.nx
 have yl:=X.xl
 have Al:(Jn L).length=8 * bs.length:=by unfold Jn; rw[R3 D.l8,D.ll]
 have U:RnP n q R (b1+3) (b1+5) p6 [b1+1,b1+2]:=⟨nq,⟨by omega,by omega⟩,⟨by omega,by omega,by omega⟩,fun m hm=>by
  simp only[List.mem_cons,List.not_mem_nil,or_false] at hm
  omega,by omega⟩
 have ne:(q9 [1,1,1,1,1,1,0,1,2,6])≠(q9 [1,1,1,1,1,1,0,1,2,5]):=fun e1=>by
  rw[Zjv,Zjt] at e1
  cases e1
 have eg:Z6 K ts (.tmp 42)=some (.fn 85 [] [some (b1+3,0)]):=by simp only[Z6,Y2,t42,asC]
 rw[Zmj]
 refine (Zmc Hh (I:=AdI R b1 p6 bs s (Jn L)) (JT:=fun ts' i hb=>Zh ts' 6=.w (.c (.ptr p6 0))∧Zh ts' 13=.w (.c (.ptr b1 0))∧Zh ts' 14=.w (.c (.ptr (b1+1) 0))∧Zh ts' 15=.w (.c (.ptr (b1+2) 0))∧Zh ts' 16=.w (.c (.int .i64 (i:Int)))∧Zh ts' 17=.w (.c (.ptr hb 0))) ne (by omega) (by omega) f m0 nC U X D y3 ?_ (by omega) ⟨by omega,by omega,fun m hm=>by simp only[List.mem_cons,List.not_mem_nil,or_false] at hm; omega⟩ ?_ ?_ hR a7 eg M ?_).mono ?_
 ·intro t h1 h2 J k
  have kk:∀ m,m<b1+4→m≠R→m≠n+6→h2.get m=h1.get m:=fun m hm h1' h2'=>k.2 m (by have:=J.nx; omega) (.inl ⟨by omega,h1',h2'⟩)
  exact⟨(kk _ (by omega) (by omega) (by omega)).trans J.c6,(kk _ (by omega) (by omega) (by omega)).trans J.c13,(kk _ (by omega) (by omega) (by omega)).trans J.c14,(kk _ (by omega) (by omega) (by omega)).trans J.c15,Nat.le_trans J.nx k.1⟩
 ·exact fun i x h1=>(adA Hh (b1+4+1) ts i (slC x) rfl h1).mono fun x' ds' ts' h' ⟨e1,e2,⟨t1,t7,t8⟩,n1,k1,r1⟩=>⟨e1,e2,⟨(t1 6 (by decide)).trans t6,(t1 13 (by decide)).trans t13,(t1 14 (by decide)).trans t14,(t1 15 (by decide)).trans t15,t7,t8⟩,n1,k1,r1⟩
 ·exact fun t i x ts' h1 hb at_ ib ⟨u6,u13,u14,u15,u16,u17⟩ gb p1 p2 J M1 rd1 _=>adB Hh yl M1 bq b6 bR at_ ib D.nz u6 u13 u14 u15 u16 u17 gb J rd1
 ·exact fun h2 n2 k2=>⟨(k2 _ (by omega)).trans a6,(k2 _ (by omega)).trans a13,(k2 _ (by omega)).trans a14,(k2 _ (by omega)).trans a15,by omega⟩
 rintro x1 ds1 ts1 h1 ⟨rfl,rfl,rfl,gd,J,M1,⟨cs,R1,R2⟩,n1,k1⟩
 rw[←Al] at J
 obtain⟨c6,c13,c14,c15,nx'⟩:=J
 rw[List.take_of_length_le (Nat.le_refl _)] at c14 c15
 exact⟨rfl,rfl,rfl,gd,c6,c13,c14,c15,M1,⟨cs,R1⟩,n1,fun m hm m6=>k1 m (by omega) (by omega) m6 (fun w=>by simp only[List.mem_cons,List.not_mem_nil,or_false] at w; omega) (.inl hm)⟩
variable {j g u:Nat}
theorem Zie (f:Ym a b c e=true) (m0:md≠0) (M:HE n q a b c e cr md S [] V h) (D:DirS a b c e V j g P bs L) (my:Vv s=true) (u0:0<u) (u1:u≤a * c) (th:thF s (Jn L)=true) :
  ∃ h',Zg 9 [.c (.ptr (n+13) 0),.c (.int .i64 ((j+1:Nat):Int)),.c (.str s),.c (.int .i64 (u:Int))] h (.w (.c (.int .i64 300))) h'∧HE n q a b c e cr md S [] V h'∧Kr n q h h':=by
 obtain⟨nq,nx,n0⟩:=M.nx
 obtain⟨st,⟨kn,hs⟩,⟨dk,gl⟩,ht⟩:=M.cells
 unfold gdL gdD at gl
 have dm:(md != 0)=true:=Mr m0
 have cM:=fun h=>Zn6 Hh s h
 rw[my] at cM
 have du1:decide (1≤(u:Int))=true:=decide_eq_true (by omega)
 have du2:decide ((u:Int)≤((a * c:Nat):Int))=true:=decide_eq_true (by omega)
 obtain⟨gz,jl,gb,pb,vd,db,nd,dat⟩:=D
 have ip:=Ti (k:=2) (l:=1) (g:=g) (s:=256 * bs.length) (nx:=0) pb
 have yl:=ip.xl
 obtain⟨y,hy⟩:∃ y,Fa 2 1 g (256 * bs.length) P 0=y:=⟨_,rfl⟩
 have ky:y[0]? = some (.int .u8 2):=by rw[←hy]; rfl
 have y3:y[3]? = some (.int .i64 ((256 * bs.length:Nat):Int)):=by rw[←hy]; rfl
 rw[hy] at gz ip yl
 refine Ou ?_
 refine Yg Hh Tryz.f9 ?_
 have Jf:=Vu @f @hs @gl @ht @dm @du1 @du2 @Ff
 iterate 11 (first|apply Zk|apply Zw|refine Goes.Zi Df ?_|refine Zq Hh (EY Za (Lj Hh)) Df ?_)
 iterate 5 (first|apply Zk|apply Zw|refine Goes.Zi Df ?_|refine Zq Hh (Yp Za cM) Df ?_)
 iterate 6 (first|apply Zk|apply Zw|refine Goes.Zi Df ?_|refine Zq Hh (EY (EY Za (Jh Hh)) (D5 Hh)) Df ?_)
 refine Uc fun hA eA=>?_
 have nA:hA.next=h.next+1:=by rw[eA]; first|rfl|simp only[H.Zd,H.Zb]
 have kA:∀ m,m<h.next→hA.get m=h.get m:=fun m hm=>by rw[eA]; exact Yc
 have gA:hA.get h.next=some (.row 1 [[.str s]] false):=by rw[eA]; exact Zc
 clear eA
 obtain⟨hB,c9,BR,nB,MB,kB⟩:=Xe Hh f m0 (M.keep (h2:=hA) (by omega) fun m hm=>kA m (by omega)) gz ky yl
 have gB:=(kB.2 h.next (by omega) (by omega)).trans gA
 obtain⟨b1,hb1⟩:∃ b1,hB.next=b1:=⟨_,rfl⟩
 obtain⟨R,hR⟩:∃ R,hA.next=R:=⟨_,rfl⟩
 rw[hR] at c9 BR nB
 have cA:=fun h=>Zar Hh R h
 have Jf:=Yy Jf @gB
 iterate 5 (first|apply Zk|refine Zq Hh (Zp Za c9) Df ?_)
 iterate 2 (first|apply Yt|refine Zq Hh (Yp Za cA) Df ?_)
 refine Uc fun hC eC=>?_
 have nC:hC.next=b1+4:=by rw[eC]; simp only[H.Zd,H.Zb,hb1]
 have kC:∀ m,m<hB.next→hC.get m=hB.get m:=fun m hm=>by rw[eC]; exact Yc
 have a13:hC.get b1=some (.row 1 [[.ptr R 0]] false):=by rw[eC,←hb1]; exact Zc
 have a14:hC.get (b1+1)=some (.row 1 [[.bool false]] false):=by rw[eC,←hb1]; exact Zc
 have a15:hC.get (b1+2)=some (.row 1 [[.int .i64 0]] false):=by rw[eC,←hb1]; exact Zc
 have a7:hC.get (b1+3)=some (.row 1 [[.ptr R 0]] false):=by rw[eC,←hb1]; exact Zc
 clear eC
 show Ye 105 none (q9 [1,1,1,1,1,1,0,1,2]) _ _ _ _
 refine Zxq fun ts hts=>?_
 refine (Zl7 Hh f m0 nC (p6:=h.next) (by omega) (R:=R) (by omega) (by omega) ip db y3 (MB.keep (by omega) fun m hm=>kC m (by omega)) ((kC R (by omega)).trans BR) ((kC _ (by omega)).trans gB) a13 a14 a15 a7 ?_ ?_ ?_ ?_ ?_).mono ?_
 ·rw[hts]; exact Zc
 ·rw[hts,←hb1]; exact Zc
 ·rw[hts,←hb1]; exact Zc
 ·rw[hts,←hb1]; exact Zc
 ·rw[hts,←hb1]; exact Zc
 rintro x1 ds1 ts1 h1 ⟨rfl,rfl,rfl,gd,c6,c13,c14,c15,M1,⟨cs,R1⟩,n1,k1⟩
 subst hts
 obtain⟨g0,g1,g2,g3,g4,g5⟩:=Ej (n:=n) (s:=cs) (e:=0) yl
 obtain⟨r0,hr0⟩:∃ r,rdC n y cs 0=r:=⟨_,rfl⟩
 have R1':=R1
 rw[hr0] at R1 g1 g3
 have kk:∀ m,m<h.next→m≠n+6→h1.get m=h.get m:=fun m hm m6=>(k1 m hm m6).trans ((kC m (by omega)).trans ((kB.2 m (by omega) m6).trans (kA m hm)))
 rw[th] at c14
 have Jf:=M8 @f @hs @gl @ht @dm @du1 (Yu @du2 @Ff @gB @gd @c13 @c14 @R1 @g3 @hb1)
 iterate 11 (first|apply Zk|apply Yt|apply Z0|refine Goes.Zi Df ?_|refine Zq Hh Za Df ?_)
 refine⟨_,_,Zj,rfl,M1.keep ?_ fun m hm=>?_,⟨?_,fun m hm m6=>?_⟩⟩
 ·simp only[H.Zd,H.Yv]<;>omega
 ·exact Yc
 ·simp only[H.Zd,H.Yv]<;>omega
 ·refine Eq.trans ?_ (kk m hm m6); exact Yc
end
theorem Zh9:∀ {L:List (List Sl)} {j t i:Nat} {x:Sl},(∀ l∈L,l.length=8)→(L9 j L)[t]? = some (i,x)→∃ d k l,i=j+d∧t=8 * d+k∧L[d]? = some l∧l[k]? = some x
 | [],_,_,_,_,_,h=>by simp [L9] at h
 | l0 :: r,j,t,i,x,hl,h=>by
  have l8:=hl l0 (List.mem_cons_self ..)
  unfold L9 at h
  by_cases w:t<8
  ·rw[List.getElem?_append_left (by rw[List.length_map,l8]; exact w),List.getElem?_map] at h
   obtain⟨y,hy,e⟩:=Option.map_eq_some_iff.1 h
   cases e
   exact⟨0,t,l0,rfl,by omega,rfl,hy⟩
  ·rw[List.getElem?_append_right (by rw[List.length_map]; omega),List.length_map,l8] at h
   obtain⟨d,k,l,e1,e2,e3,e4⟩:=Zh9 (fun l h=>hl l (List.mem_cons_of_mem _ h)) h
   exact⟨d+1,k,l,by omega,by omega,by simpa using e3,e4⟩
theorem Zv1 {bs:List Nat} {z:Nat} (z0:z≠0):∀ {A:List (Nat × Sl)},frF bs A=z→∃ (t i:Nat) (x:Sl),A[t]? = some (i,x)∧x.1=0∧bs.getD i 0=z∧∀ (t':Nat) (p:Nat × Sl),t'<t→A[t']? = some p→p.2.1≠0
 | [],h=>absurd (show (0:Nat)=z from h).symm z0
 | (i,x) :: r,h=>by
  have e:frF bs ((i,x) :: r)=if x.1=0 then bs.getD i 0 else frF bs r:=rfl
  rw[e] at h
  by_cases w:x.1=0
  ·rw[if_pos w] at h
   exact⟨0,i,x,rfl,w,h,fun t' p ht=>absurd ht (by omega)⟩
  ·rw[if_neg w] at h
   obtain⟨t,i',x',h1,h2,h3,h4⟩:=Zv1 z0 h
   refine⟨t+1,i',x',by simpa using h1,h2,h3,fun t' p ht hp=>?_⟩
   match t',ht,hp with
   | 0,_,hp =>
    obtain rfl:(i,x)=p:=by simpa using hp
    exact w
   | t'+1,ht,hp=>exact h4 t' p (by omega) (by simpa using hp)
theorem Zvp {bs:List Nat}:∀ {A:List (Nat × Sl)},(∀ p∈A,bs.getD p.1 0≠0)→frF bs A=0→∀ p∈A,p.2.1≠0
 | [],_,_=>fun p hp=>by simp at hp
 | (i,x) :: r,nz,h=>by
  have e:frF bs ((i,x) :: r)=if x.1=0 then bs.getD i 0 else frF bs r:=rfl
  rw[e] at h
  have w:x.1≠0:=fun w=>by
   rw[if_pos w] at h
   exact nz (i,x) (List.mem_cons_self ..) h
  rw[if_neg w] at h
  intro p hp
  rcases List.mem_cons.1 hp with rfl|hp
  ·exact w
  ·exact Zvp (fun p hp=>nz p (List.mem_cons_of_mem _ hp)) h p hp
theorem Z5m {s:List UInt8} {A:List (Nat × Sl)} (h:thF s A=false):∀ p∈A,p.2.1≠0→p.2.2≠s:=fun p hp p0 e=>by
 unfold thF at h
 have:=List.any_eq_false.1 h p hp
 rw[Nn p0,Dz.2 e] at this
 exact this rfl
theorem Z61 {L:List (List Sl)} {i:Nat} {l:List Sl} {x:Sl} (hl:∀ l∈L,l.length=8) (h:L[i]? = some l) (hx:x∈l):(i,x)∈Jn L:=by
 obtain⟨k,hk⟩:=List.mem_iff_getElem?.1 hx
 have:=Xq (j:=0) hl h hk
 rw[Nat.zero_add] at this
 exact List.mem_of_getElem? this
section
variable {a b c e:Nat} {V V':Nat→List Nat} {P:Nat→Nat} {bs:List Nat} {L:List (List Sl)} {j g i k z:Nat} {l l':List Sl} {x:Sl}
theorem DirB.free (D:DirB a b c e V P bs L) (hz:frF bs (Jn L)=z) (z0:z≠0):∃ i k l,bs[i]? = some z∧L[i]? = some l∧l[k]? = some sl0∧(∀ k' y,k'<k→l[k']? = some y→y.1≠0)∧∀ t p,t<8 * i+k→(Jn L)[t]? = some p→p.2.1≠0:=by
 obtain⟨t,i,x,h1,h2,h3,h4⟩:=Zv1 z0 hz
 obtain⟨d,k,l,rfl,rfl,e3,e4⟩:=Zh9 D.l8 h1
 rw[Nat.zero_add] at h3
 have x0:x=sl0:=by
  have:=D.sok (0+d,x) (List.mem_of_getElem? h1)
  rcases this with w|w
  ·exact w
  ·exact absurd h2 (by show ¬ x.1=0; have:=w.1; simp only at this; omega)
 subst x0
 have dl:d<bs.length:=by
  rcases Nat.lt_or_ge d L.length with q|q
  ·rw[D.ll] at q; exact q
  ·rw[List.getElem?_eq_none q] at e3; cases e3
 refine⟨d,k,l,?_,e3,e4,fun k' y hk hy=>?_,fun t p ht hp=>h4 t p ht hp⟩
 ·rw[List.getD_eq_getElem?_getD,List.getElem?_eq_getElem dl] at h3
  rw[List.getElem?_eq_getElem dl]
  exact congrArg some h3
 ·have:=Xq (j:=0) D.l8 e3 hy
  exact h4 (8 * d+k') _ (by omega) this
theorem DirS.upd (D:DirS a b c e V j g P bs L) (hi:bs[i]? = some z) (hL:L[i]? = some l) {ns:List Nat} (S':SlV ns l'):DirS a b c e (O9 V z ns) j g P bs (L.set i l'):=by
 obtain⟨gz,jl,gb,pb,vd,db,nd,dat⟩:=D
 have zm:=List.mem_of_getElem? hi
 refine⟨by rw[Zf1 (dat z zm)]; exact gz,jl,gb,pb,vd,⟨db.lb,by rw[List.length_set,db.ll],fun i' z' hz'=>?_⟩,nd,dat⟩
 obtain⟨d1,d2,d3,d4,l1,d5,d6⟩:=db.at_ i' z' hz'
 refine⟨d1,d2,d3,d4,?_⟩
 by_cases e:i'=i
 ·subst e
  rw[hi] at hz'
  cases hz'
  have il:i'<L.length:=by
   rcases Nat.lt_or_ge i' L.length with q|q
   ·exact q
   ·rw[List.getElem?_eq_none q] at hL; cases hL
  exact⟨l',List.getElem?_set_self il,by rw[Bl]; exact S'⟩
 ·refine⟨l1,by rw[List.getElem?_set_ne (Ne.symm e)]; exact d5,?_⟩
  have ne:z'≠z:=fun w=>by
   subst w
   have i1:i'<bs.length:=by
    rcases Nat.lt_or_ge i' bs.length with q|q
    ·exact q
    ·rw[List.getElem?_eq_none q] at hz'; cases hz'
   exact e ((List.getElem?_inj i1 nd).1 (hz'.trans hi.symm))
  rw[J6 ne]
  exact d6
theorem DirS.same (D:DirS a b c e V j g P bs L) (h1:gI a b c e V' ((j+1:Nat):Int)=gI a b c e V ((j+1:Nat):Int)) (h2:∀ z∈bs,V' z=V z):DirS a b c e V' j g P bs L:=by
 obtain⟨gz,jl,gb,pb,vd,db,nd,dat⟩:=D
 refine⟨by rw[h1]; exact gz,jl,gb,pb,vd,⟨db.lb,db.ll,fun i' z' hz'=>?_⟩,nd,dat⟩
 obtain⟨d1,d2,d3,d4,l1,d5,d6⟩:=db.at_ i' z' hz'
 exact⟨d1,d2,d3,d4,l1,d5,by rw[h2 z' (List.mem_of_getElem? hz')]; exact d6⟩
theorem DirS.grow (D:DirS a b c e V j g P bs L) (n8:bs.length<8) (oz:Bp a b c e (z:Nat)=true) (zl:z<2+e+a * b) (z0:z≠0) (z32:z<4294967296) (zn:z ∉ bs) (zd:∀ i,i<a * c→Y1 b c e i≠z) (hg:gI a b c e V' ((j+1:Nat):Int)=(Fa 2 1 g (256 * (bs.length+1)) (U5 P bs.length z) 0,0)) (hV:∀ w∈bs,V' w=V w) (hz:SlV (V' z) l'):DirS a b c e V' j g (U5 P bs.length z) (bs++[z]) (L++[l']):=by
 obtain⟨gz,jl,gb,pb,vd,db,nd,dat⟩:=D
 have ll:=db.ll
 refine⟨by rw[hg,List.length_append]; rfl,jl,gb,fun i hi=>?_,fun i h1 h2=>?_,⟨by rw[List.length_append]; show _+1≤8; omega,by rw[List.length_append,List.length_append,ll]; rfl,fun i' z' hz'=>?_⟩,?_,fun w hw=>?_⟩
 ·unfold U5
  split
  ·exact z32
  ·exact pb i hi
 ·rw[List.length_append] at h1
  have h1:bs.length+1≤i:=h1
  unfold U5
  rw[if_neg (by omega)]
  exact vd i (by omega) h2
 ·rcases Nat.lt_or_ge i' bs.length with w|w
  ·rw[List.getElem?_append_left w] at hz'
   obtain⟨d1,d2,d3,d4,l1,d5,d6⟩:=db.at_ i' z' hz'
   refine⟨by unfold U5; rw[if_neg (by omega)]; exact d1,d2,d3,d4,l1,by rw[List.getElem?_append_left (by omega)]; exact d5,by rw[hV z' (List.mem_of_getElem? hz')]; exact d6⟩
  ·have e:i'=bs.length:=by
    rcases Nat.lt_or_ge i' (bs++[z]).length with q|q
    ·rw[List.length_append] at q
     have q:i'<bs.length+1:=q
     omega
    ·rw[List.getElem?_eq_none q] at hz'; cases hz'
   subst e
   rw[List.getElem?_append_right (Nat.le_refl _),Nat.sub_self] at hz'
   obtain rfl:z=z':=by simpa using hz'
   refine⟨by unfold U5; rw[if_pos rfl],z0,oz,zl,l',by rw[List.getElem?_append_right (by omega),ll,Nat.sub_self]; rfl,hz⟩
 ·rw[List.nodup_append]
  refine⟨nd,by simp,fun x hx y hy w=>?_⟩
  obtain rfl:y=z:=by simpa using hy
  subst w
  exact zn hx
 ·rcases List.mem_append.1 hw with q|q
  ·exact dat w q
  ·obtain rfl:w=z:=by simpa using q
   exact zd
end
section
variable (Hh:Hearts K Tryz.prog)
include Hh
variable {n q a b c e:Nat} {cr:Cr} {md:Int} {S:List Nat} {V:Nat→List Nat} {h:Go.Ev.H} {P:Nat→Nat} {bs:List Nat} {L:List (List Sl)} {s:List UInt8} {j g u:Nat}
theorem Zpf (f:Ym a b c e=true) (m0:md≠0) (M:HE n q a b c e cr md S [] V h) (z u:Int) (my:Vv s=false) :
  ∃ h',Zg 9 [.c (.ptr (n+13) 0),.c (.int .i64 z),.c (.str s),.c (.int .i64 u)] h (.w (.c (.int .i64 290))) h'∧HE n q a b c e cr md S [] V h'∧Kr n q h h':=by
 obtain⟨nq,nx,n0⟩:=M.nx
 obtain⟨st,⟨kn,hs⟩,⟨dk,gl⟩,ht⟩:=M.cells
 unfold gdL gdD at gl
 have dm:(md != 0)=true:=Mr m0
 have cM:=fun h=>Zn6 Hh s h
 rw[my] at cM
 refine Ou ?_
 refine Yg Hh Tryz.f9 ?_
 have Jf:=Sy @f @hs @gl @ht @dm @Ff
 iterate 11 (first|apply Zk|apply Zw|refine Goes.Zi Df ?_|refine Zq Hh (EY Za (Lj Hh)) Df ?_)
 iterate 5 (first|apply Zk|apply Z0|refine Goes.Zi Df ?_|refine Zq Hh (Yp Za cM) Df ?_)
 refine⟨_,_,Zc,rfl,M.keep ?_ fun m hm=>?_,⟨?_,fun m hm m6=>?_⟩⟩
 ·simp only[H.Zd,H.Zb]; omega
 ·exact Yc
 ·simp only[H.Zd,H.Zb]; omega
 ·exact Yc
theorem Zxu (f:Ym a b c e=true) (m0:md≠0) (M:HE n q a b c e cr md S [] V h) (D:DirS a b c e V j g P bs L) (my:Vv s=true) (u0:0<u) (u1:u≤a * c) (u32:u<4294967296) (th:thF s (Jn L)=false) {z:Nat} (fz:frF bs (Jn L)=z) (z0:z≠0) (zs:z∈S) :
  ∃ h' i k l,Zg 9 [.c (.ptr (n+13) 0),.c (.int .i64 ((j+1:Nat):Int)),.c (.str s),.c (.int .i64 (u:Int))] h (.w (.c (.int .i64 0))) h'∧Kp n q h h'∧bs[i]? = some z∧L[i]? = some l∧l[k]? = some sl0∧(∀ t p,t<8 * i+k→(Jn L)[t]? = some p→p.2.1≠0)∧HE n q a b c e cr md S [] (O9 V z (Xc (V z) k (u,s))) h'∧DirS a b c e (O9 V z (Xc (V z) k (u,s))) j g P bs (L.set i (l.set k (u,s))):=by
 obtain⟨nq,nx,n0⟩:=M.nx
 obtain⟨st,⟨kn,hs⟩,⟨dk,gl⟩,ht⟩:=M.cells
 unfold gdL gdD at gl
 have dm:(md != 0)=true:=Mr m0
 have cM:=fun h=>Zn6 Hh s h
 rw[my] at cM
 have du1:decide (1≤(u:Int))=true:=decide_eq_true (by omega)
 have du2:decide ((u:Int)≤((a * c:Nat):Int))=true:=decide_eq_true (by omega)
 obtain⟨gz,jl,gb,pb,vd,db,nd,dat⟩:=D
 have ip:=Ti (k:=2) (l:=1) (g:=g) (s:=256 * bs.length) (nx:=0) pb
 have yl:=ip.xl
 obtain⟨i,k,l,f1,f2,f3,f4,f5⟩:=db.free fz z0
 obtain⟨d1,d2,d3,d4,l1,d5,d6⟩:=db.at_ i z f1
 rw[f2] at d5
 cases d5
 have hn:∀ y∈l,y.1≠0→y.2≠s:=fun y hy=>Z5m th (i,y) (Z61 db.l8 f2 hy)
 have l27:=(Zb3 my).2
 have DD:DirS a b c e (O9 V z (Xc (V z) k (u,s))) j g P bs (L.set i (l.set k (u,s))):=DirS.upd ⟨gz,jl,gb,pb,vd,db,nd,dat⟩ f1 f2 (d6.add f3 (x:=(u,s)) (.inr ⟨u0,u32,my⟩) hn l27)
 have hG:=fun {h:Go.Ev.H} (M:HE n q a b c e cr md S [] V h)=>M.get f d3 d4
 have hW:=fun {h:Go.Ev.H} (M:HE n q a b c e cr md S [] V h)=>Zy7 Hh f M d3 d4 zs List.not_mem_nil d6 f3 f4 my u0 u32 hn
 have xl:(pgL (V z)).length=256:=by rw[Jy,d6.vl]
 obtain⟨V',hV'⟩:∃ V',O9 V z (Xc (V z) k (u,s))=V':=⟨_,rfl⟩
 rw[hV'] at DD
 simp only[hV'] at hW
 obtain⟨X0,hX0⟩:∃ X,pgL (V z)=X:=⟨_,rfl⟩
 rw[hX0] at xl
 simp only[hX0] at hG hW
 have ez:((z:Int) == 0)=false:=Ee (by omega)
 have wu:Jr .u32 (u:Int)=.int .u32 (u:Int):=Tv (by omega)
 obtain⟨y,hy⟩:∃ y,Fa 2 1 g (256 * bs.length) P 0=y:=⟨_,rfl⟩
 have ky:y[0]? = some (.int .u8 2):=by rw[←hy]; rfl
 have y3:y[3]? = some (.int .i64 ((256 * bs.length:Nat):Int)):=by rw[←hy]; rfl
 rw[hy] at gz ip yl
 obtain⟨v,h',cc,rfl,M',k'⟩:∃ v h',Zg 9 [.c (.ptr (n+13) 0),.c (.int .i64 ((j+1:Nat):Int)),.c (.str s),.c (.int .i64 (u:Int))] h v h'∧v=.w (.c (.int .i64 0))∧HE n q a b c e cr md S [] V' h'∧Kp n q h h':=by
  refine Yg Hh Tryz.f9 ?_
  have Jf:=Vu @f @hs @gl @ht @dm @du1 @du2 @Ff
  iterate 11 (first|apply Zk|apply Zw|refine Goes.Zi Yb ?_|refine Zq Hh (EY Za (Lj Hh)) Yb ?_)
  iterate 5 (first|apply Zk|apply Zw|refine Goes.Zi Yb ?_|refine Zq Hh (Yp Za cM) Yb ?_)
  iterate 6 (first|apply Zk|apply Zw|refine Goes.Zi Yb ?_|refine Zq Hh (EY (EY Za (Jh Hh)) (D5 Hh)) Yb ?_)
  refine Uc fun hA eA=>?_
  have nA:hA.next=h.next+1:=by rw[eA]; first|rfl|simp only[H.Zd,H.Zb]
  have kA:∀ m,m<h.next→hA.get m=h.get m:=fun m hm=>by rw[eA]; exact Yc
  have gA:hA.get h.next=some (.row 1 [[.str s]] false):=by rw[eA]; exact Zc
  clear eA
  obtain⟨hB,c9,BR,nB,MB,kB⟩:=Xe Hh f m0 (M.keep (h2:=hA) (by omega) fun m hm=>kA m (by omega)) gz ky yl
  have gB:=(kB.2 h.next (by omega) (by omega)).trans gA
  obtain⟨b1,hb1⟩:∃ b1,hB.next=b1:=⟨_,rfl⟩
  obtain⟨R,hR⟩:∃ R,hA.next=R:=⟨_,rfl⟩
  rw[hR] at c9 BR nB
  have cA:=fun h=>Zar Hh R h
  have Jf:=Yy Jf @gB
  iterate 5 (first|apply Zk|refine Zq Hh (Zp Za c9) Yb ?_)
  iterate 2 (first|apply Yt|refine Zq Hh (Yp Za cA) Yb ?_)
  refine Uc fun hC eC=>?_
  have nC:hC.next=b1+4:=by rw[eC]; simp only[H.Zd,H.Zb,hb1]
  have kC:∀ m,m<hB.next→hC.get m=hB.get m:=fun m hm=>by rw[eC]; exact Yc
  have a13:hC.get b1=some (.row 1 [[.ptr R 0]] false):=by rw[eC,←hb1]; exact Zc
  have a14:hC.get (b1+1)=some (.row 1 [[.bool false]] false):=by rw[eC,←hb1]; exact Zc
  have a15:hC.get (b1+2)=some (.row 1 [[.int .i64 0]] false):=by rw[eC,←hb1]; exact Zc
  have a7:hC.get (b1+3)=some (.row 1 [[.ptr R 0]] false):=by rw[eC,←hb1]; exact Zc
  clear eC
  show Ye 105 none (q9 [1,1,1,1,1,1,0,1,2]) _ _ _ _
  refine Zxq fun ts hts=>?_
  refine (Zl7 Hh f m0 nC (p6:=h.next) (by omega) (R:=R) (by omega) (by omega) ip db y3 (MB.keep (by omega) fun m hm=>kC m (by omega)) ((kC R (by omega)).trans BR) ((kC _ (by omega)).trans gB) a13 a14 a15 a7 ?_ ?_ ?_ ?_ ?_).mono ?_
  ·rw[hts]; exact Zc
  ·rw[hts,←hb1]; exact Zc
  ·rw[hts,←hb1]; exact Zc
  ·rw[hts,←hb1]; exact Zc
  ·rw[hts,←hb1]; exact Zc
  rintro x1 ds1 ts1 h1 ⟨rfl,rfl,rfl,gd,c6,c13,c14,c15,M1,⟨cs,R1⟩,n1,k1⟩
  subst hts
  obtain⟨g0,g1,g2,g3,g4,g5⟩:=Ej (n:=n) (s:=cs) (e:=0) yl
  obtain⟨r0,hr0⟩:∃ r,rdC n y cs 0=r:=⟨_,rfl⟩
  have R1':=R1
  rw[hr0] at R1 g1 g3
  have kk:∀ m,m<h.next→m≠n+6→h1.get m=h.get m:=fun m hm m6=>(k1 m hm m6).trans ((kC m (by omega)).trans ((kB.2 m (by omega) m6).trans (kA m hm)))
  rw[th] at c14
  rw[fz] at c15
  obtain⟨hG1,eG,MG,nG,kG⟩:=hG M1
  have c24:=Dq Hh eG
  have gG:=(kG h.next (by omega) (by omega)).trans c6
  have G15:=(kG (b1+2) (by omega) (by omega)).trans c15
  have gd':=(kG (b1+4) (by omega) (by omega)).trans gd
  have nb1:n+23≤b1:=by omega
  have Jf:=Jb @f @hs (Yu @gl @ht @dm @du1 @du2 @Ff @gB @gd (Yu @c13 @c14 @c15 @R1 @g3 @hb1 @ez @xl @wu))
  iterate 13 (first|apply Zk|apply Zw|apply Yt|refine Goes.Zi Yb ?_|refine Zq Hh Za Yb ?_)
  iterate 7 (first|apply Zk|apply Zw|refine Goes.Zi Yb ?_|refine Zq Hh (Zp Za c24) Yb ?_)
  refine Uc fun hD eD=>?_
  have nD:hD.next=hG1.next+1:=by rw[eD]; simp only[H.Zd,H.Zb]
  have kD:∀ m,m<hG1.next→hD.get m=hG1.get m:=fun m hm=>by rw[eD]; exact Yc
  have gD:hD.get hG1.next=some (.row 256 [X0] false):=by rw[eD]; exact Z5
  clear eD
  have D6:=(kD h.next (by omega)).trans gG
  have D15:=(kD (b1+2) (by omega)).trans G15
  have Dgd:=(kD (b1+4) (by omega)).trans gd'
  have MD:=MG.keep (h2:=hD) (by omega) fun m hm=>kD m (by have:=MG.nx; omega)
  obtain⟨hE,c27,ME,kE⟩:=hW MD
  have nE:=kE.1
  have Egd:=(kE.2 (b1+4) (by omega) ⟨⟨by omega,by omega,by omega,by omega,by omega⟩,by omega⟩).trans Dgd
  iterate 2 (first|apply Z0|(apply Goes.ops2 fits Hh (Zp Za c27); · simp (maxSteps:=9^6) +decide (disch:=first|omega|(simp only[lens]<;>omega)|decide) only [go_sem,Zm,simprocAttr,Ya,f,hs,stG,gl,ht,txC,dm,Jk,du1,du2,Ff,gB,gd,c13,c14,c15,R1,g3,hb1,ez,xl,wu,gD,D6,D15,Yf]<;>rfl))
  refine⟨_,_,(by have Jf:=Yy @Egd @hb1; exact Zj),rfl,ME.keep ?_ fun m hm=>?_,⟨?_,fun m hm ho=>?_⟩⟩
  ·simp only[H.Zd,H.Yv]<;>omega
  ·exact Yc
  ·simp only[H.Zd,H.Yv]<;>omega
  ·refine Eq.trans ?_ ((kE.2 m (by omega) ho).trans ((kD m (by omega)).trans ((kG m (by omega) ho.1.1).trans (kk m hm ho.1.1)))); exact Yc
 subst hV'
 exact⟨h',i,k,l,cc,k',f1,f2,f3,f5,M',DD⟩
variable {Al:(Nat→List Nat)→Nat→Prop} {blk:Nat→Nat} {cap:Nat} {mt nk:Nat→Prop} {m:Nat}
theorem Zey (f:Ym a b c e=true) (m0:md≠0) (M:HE n q a b c e cr md S [] V h) (D:DirS a b c e V j g P bs L) (my:Vv s=true) (u0:0<u) (u1:u≤a * c) (u32:u<4294967296) (th:thF s (Jn L)=false) (fz:frF bs (Jn L)=0) (n8:bs.length<8)
  (A:AlcW n q a b c e cr md S Al blk cap mt nk) (al:Al V m) (mc:m<cap) (b32:blk m<4096) (mtI:∀ i,i<a * c→¬ mt (Y1 b c e i)) (bI:∀ i,i<a * c→Y1 b c e i≠blk m) (js:Y1 b c e j∈S) (nr:nk (Y1 b c e j)) (bm:∀ z∈bs,¬ mt z∧z≠blk m) :
  ∃ h' V',Zg 9 [.c (.ptr (n+13) 0),.c (.int .i64 ((j+1:Nat):Int)),.c (.str s),.c (.int .i64 (u:Int))] h (.w (.c (.int .i64 0))) h'∧Kp n q h h'∧HE n q a b c e cr md S [] V' h'∧Al V' (m+1)∧DirS a b c e V' j g (U5 P bs.length (blk m)) (bs++[blk m]) (L++[sl8.set 0 (u,s)])∧(∀ i,i≠j→gI a b c e V' ((i+1:Nat):Int)=gI a b c e V ((i+1:Nat):Int))∧∀ w,¬ mt w→w≠blk m→w≠Y1 b c e j→V' w=V w:=by
 obtain⟨nq,nx,n0⟩:=M.nx
 obtain⟨st,⟨kn,hs⟩,⟨dk,gl⟩,ht⟩:=M.cells
 unfold gdL gdD at gl
 have dm:(md != 0)=true:=Mr m0
 have cM:=fun h=>Zn6 Hh s h
 rw[my] at cM
 have du1:decide (1≤(u:Int))=true:=decide_eq_true (by omega)
 have du2:decide ((u:Int)≤((a * c:Nat):Int))=true:=decide_eq_true (by omega)
 obtain⟨gz,jl,gb,pb,vd,db,nd,dat⟩:=D
 have ip:=Ti (k:=2) (l:=1) (g:=g) (s:=256 * bs.length) (nx:=0) pb
 have yl:=ip.xl
 have hG:=fun {h:Go.Ev.H} (M:HE n q a b c e cr md S [] V h)=>Z3w Hh (s:=s) f m0 A M al mc b32 mtI bI (u:=u) jl js nr gb n8 (vd _ (Nat.le_refl _) (by omega)) pb my u0 u32
 obtain⟨o1,o2,o3,o4,o5⟩:=A.ours m mc
 have wu:Jr .u32 (u:Int)=.int .u32 (u:Int):=Tv (by omega)
 have gz0:=gz
 obtain⟨y,hy⟩:∃ y,Fa 2 1 g (256 * bs.length) P 0=y:=⟨_,rfl⟩
 have ky:y[0]? = some (.int .u8 2):=by rw[←hy]; rfl
 have y3:y[3]? = some (.int .i64 ((256 * bs.length:Nat):Int)):=by rw[←hy]; rfl
 have y16:=Ty 2 1 g (256 * bs.length) P 0
 rw[hy] at gz ip yl y16
 simp only[hy] at hG
 obtain⟨v,h',cc,V',rfl,M',k',r1,r2,r3,r4,r5⟩:∃ v h',Zg 9 [.c (.ptr (n+13) 0),.c (.int .i64 ((j+1:Nat):Int)),.c (.str s),.c (.int .i64 (u:Int))] h v h'∧∃ V',v=.w (.c (.int .i64 0))∧HE n q a b c e cr md S [] V' h'∧Kp n q h h'∧Al V' (m+1)∧V' (blk m)=Xc zer0 0 (u,s)∧gI a b c e V' ((j+1:Nat):Int)=(Fa 2 1 g (256 * (bs.length+1)) (U5 P bs.length (blk m)) 0,0)∧(∀ i,i≠j→gI a b c e V' ((i+1:Nat):Int)=gI a b c e V ((i+1:Nat):Int))∧∀ w,¬ mt w→w≠blk m→w≠Y1 b c e j→V' w=V w:=by
  refine Yg Hh Tryz.f9 ?_
  have Jf:=Yu @f @hs @gl @ht @dm @du1 @du2 @Ff @wu
  iterate 11 (first|apply Zk|apply Zw|refine Goes.Zi Yb ?_|refine Zq Hh (EY Za (Lj Hh)) Yb ?_)
  iterate 5 (first|apply Zk|apply Zw|refine Goes.Zi Yb ?_|refine Zq Hh (Yp Za cM) Yb ?_)
  iterate 6 (first|apply Zk|apply Zw|refine Goes.Zi Yb ?_|refine Zq Hh (EY (EY Za (Jh Hh)) (D5 Hh)) Yb ?_)
  refine Uc fun hA eA=>?_
  have nA:hA.next=h.next+1:=by rw[eA]; first|rfl|simp only[H.Zd,H.Zb]
  have kA:∀ m,m<h.next→hA.get m=h.get m:=fun m hm=>by rw[eA]; exact Yc
  have gA:hA.get h.next=some (.row 1 [[.str s]] false):=by rw[eA]; exact Zc
  clear eA
  obtain⟨hB,c9,BR,nB,MB,kB⟩:=Xe Hh f m0 (M.keep (h2:=hA) (by omega) fun m hm=>kA m (by omega)) gz ky yl
  have gB:=(kB.2 h.next (by omega) (by omega)).trans gA
  obtain⟨b1,hb1⟩:∃ b1,hB.next=b1:=⟨_,rfl⟩
  obtain⟨R,hR⟩:∃ R,hA.next=R:=⟨_,rfl⟩
  rw[hR] at c9 BR nB
  have cA:=fun h=>Zar Hh R h
  have Jf:=Yy Jf @gB
  iterate 5 (first|apply Zk|refine Zq Hh (Zp Za c9) Yb ?_)
  iterate 2 (first|apply Yt|refine Zq Hh (Yp Za cA) Yb ?_)
  refine Uc fun hC eC=>?_
  have nC:hC.next=b1+4:=by rw[eC]; simp only[H.Zd,H.Zb,hb1]
  have kC:∀ m,m<hB.next→hC.get m=hB.get m:=fun m hm=>by rw[eC]; exact Yc
  have a13:hC.get b1=some (.row 1 [[.ptr R 0]] false):=by rw[eC,←hb1]; exact Zc
  have a14:hC.get (b1+1)=some (.row 1 [[.bool false]] false):=by rw[eC,←hb1]; exact Zc
  have a15:hC.get (b1+2)=some (.row 1 [[.int .i64 0]] false):=by rw[eC,←hb1]; exact Zc
  have a7:hC.get (b1+3)=some (.row 1 [[.ptr R 0]] false):=by rw[eC,←hb1]; exact Zc
  clear eC
  show Ye 105 none (q9 [1,1,1,1,1,1,0,1,2]) _ _ _ _
  refine Zxq fun ts hts=>?_
  refine (Zl7 Hh f m0 nC (p6:=h.next) (by omega) (R:=R) (by omega) (by omega) ip db y3 (MB.keep (by omega) fun m hm=>kC m (by omega)) ((kC R (by omega)).trans BR) ((kC _ (by omega)).trans gB) a13 a14 a15 a7 ?_ ?_ ?_ ?_ ?_).mono ?_
  ·rw[hts]; exact Zc
  ·rw[hts,←hb1]; exact Zc
  ·rw[hts,←hb1]; exact Zc
  ·rw[hts,←hb1]; exact Zc
  ·rw[hts,←hb1]; exact Zc
  rintro x1 ds1 ts1 h1 ⟨rfl,rfl,rfl,gd,c6,c13,c14,c15,M1,⟨cs,R1⟩,n1,k1⟩
  subst hts
  obtain⟨g0,g1,g2,g3,g4,g5⟩:=Ej (n:=n) (s:=cs) (e:=0) yl
  obtain⟨r0,hr0⟩:∃ r,rdC n y cs 0=r:=⟨_,rfl⟩
  have R1':=R1
  rw[hr0] at R1 g1 g3
  have kk:∀ m,m<h.next→m≠n+6→h1.get m=h.get m:=fun m hm m6=>(k1 m hm m6).trans ((kC m (by omega)).trans ((kB.2 m (by omega) m6).trans (kA m hm)))
  rw[th] at c14
  rw[fz] at c15
  have Egd0:=gd
  have n1':h.next≤h1.next:=by omega
  have nb1:n+23≤b1:=by omega
  have ez:(((0:Nat):Int) == 0)=true:=rfl
  obtain⟨hE,V',c23,ME,kE,r1,r2,r3,r4,r5⟩:=hG M1
  have nE:=kE.1
  have Egd:=(kE.2 (b1+4) (by omega) ⟨⟨by omega,by omega,by omega,by omega,by omega⟩,by omega⟩).trans gd
  have Jf:=U1 @f @hs @gl @ht (Yu @dm @du1 @du2 @Ff @wu @gB @gd @c6 (Yu @c13 @c14 @c15 @R1 @g1 @g3 @hb1 @ez @Zrc))
  iterate 12 (first|apply Zk|apply Yt|refine Goes.Zi Yb ?_|refine Zq Hh Za Yb ?_)
  iterate 2 (first|apply Z0|refine Ed Hh (Zp Za c23) Zoz ?_)
  refine⟨_,_,(by have Jf:=Yy @Egd @hb1; exact Zj),V',rfl,ME.keep ?_ fun m hm=>?_,⟨?_,fun m hm ho=>?_⟩,r1,r2,r3,r4,r5⟩
  ·simp only[H.Zd,H.Yv]<;>omega
  ·exact Yc
  ·simp only[H.Zd,H.Yv]<;>omega
  ·refine Eq.trans ?_ ((kE.2 m (by omega) ho).trans (kk m hm ho.1.1)); exact Yc
 have zn:blk m ∉ bs:=fun w=>(bm _ w).2 rfl
 refine⟨h',V',cc,k',M',r1,DirS.grow ⟨gz0,jl,gb,pb,vd,db,nd,dat⟩ n8 o1 o2 (by omega) (by omega) zn bI r3 (fun w hw=>r5 w (bm w hw).1 (bm w hw).2 (Ne.symm (dat w hw j jl))) ?_,r4,r5⟩
 rw[r2]
 exact Yb1.add (i:=0) (x:=(u,s)) rfl (.inr ⟨u0,u32,my⟩) (fun y hy y0=>by
  rw[List.eq_of_mem_replicate hy] at y0
  exact absurd rfl y0) (Zb3 my).2
theorem Zkn (f:Ym a b c e=true) (m0:md≠0) (M:HE n q a b c e cr md S [] V h) (D:DirS a b c e V j g P bs L) (my:Vv s=true) (u0:0<u) (u1:u≤a * c) (u32:u<4294967296) (th:thF s (Jn L)=false) (fz:frF bs (Jn L)=0) (n8:bs.length<8)
  (no:∀ h,HE n q a b c e cr md S [] V h→∃ h1,Zg 186 [.c (.ptr (n+13) 0),.c (.int .i64 (Y1 b c e j:Nat))] h (.tup [.c (.int .i64 0),.c (.int .i64 230)]) h1∧HE n q a b c e cr md S [] V h1∧Kp n q h h1) :
  ∃ h',Zg 9 [.c (.ptr (n+13) 0),.c (.int .i64 ((j+1:Nat):Int)),.c (.str s),.c (.int .i64 (u:Int))] h (.w (.c (.int .i64 230))) h'∧HE n q a b c e cr md S [] V h'∧Kp n q h h':=by
 obtain⟨nq,nx,n0⟩:=M.nx
 obtain⟨st,⟨kn,hs⟩,⟨dk,gl⟩,ht⟩:=M.cells
 unfold gdL gdD at gl
 have dm:(md != 0)=true:=Mr m0
 have cM:=fun h=>Zn6 Hh s h
 rw[my] at cM
 have du1:decide (1≤(u:Int))=true:=decide_eq_true (by omega)
 have du2:decide ((u:Int)≤((a * c:Nat):Int))=true:=decide_eq_true (by omega)
 obtain⟨gz,jl,gb,pb,vd,db,nd,dat⟩:=D
 have ip:=Ti (k:=2) (l:=1) (g:=g) (s:=256 * bs.length) (nx:=0) pb
 have yl:=ip.xl
 have hG:=fun {h:Go.Ev.H} (M:HE n q a b c e cr md S [] V h)=>Z1i Hh (s:=s) (u:=u) (g:=g) f m0 M jl no n8 (vd _ (Nat.le_refl _) (by omega)) pb
 have wu:Jr .u32 (u:Int)=.int .u32 (u:Int):=Tv (by omega)
 obtain⟨y,hy⟩:∃ y,Fa 2 1 g (256 * bs.length) P 0=y:=⟨_,rfl⟩
 have ky:y[0]? = some (.int .u8 2):=by rw[←hy]; rfl
 have y3:y[3]? = some (.int .i64 ((256 * bs.length:Nat):Int)):=by rw[←hy]; rfl
 have y16:=Ty 2 1 g (256 * bs.length) P 0
 rw[hy] at gz ip yl y16
 simp only[hy] at hG
 refine Ou ?_
 refine Yg Hh Tryz.f9 ?_
 have Jf:=Yu @f @hs @gl @ht @dm @du1 @du2 @Ff @wu
 iterate 11 (first|apply Zk|apply Zw|refine Goes.Zi Yb ?_|refine Zq Hh (EY Za (Lj Hh)) Yb ?_)
 iterate 5 (first|apply Zk|apply Zw|refine Goes.Zi Yb ?_|refine Zq Hh (Yp Za cM) Yb ?_)
 iterate 6 (first|apply Zk|apply Zw|refine Goes.Zi Yb ?_|refine Zq Hh (EY (EY Za (Jh Hh)) (D5 Hh)) Yb ?_)
 refine Uc fun hA eA=>?_
 have nA:hA.next=h.next+1:=by rw[eA]; first|rfl|simp only[H.Zd,H.Zb]
 have kA:∀ m,m<h.next→hA.get m=h.get m:=fun m hm=>by rw[eA]; exact Yc
 have gA:hA.get h.next=some (.row 1 [[.str s]] false):=by rw[eA]; exact Zc
 clear eA
 obtain⟨hB,c9,BR,nB,MB,kB⟩:=Xe Hh f m0 (M.keep (h2:=hA) (by omega) fun m hm=>kA m (by omega)) gz ky yl
 have gB:=(kB.2 h.next (by omega) (by omega)).trans gA
 obtain⟨b1,hb1⟩:∃ b1,hB.next=b1:=⟨_,rfl⟩
 obtain⟨R,hR⟩:∃ R,hA.next=R:=⟨_,rfl⟩
 rw[hR] at c9 BR nB
 have cA:=fun h=>Zar Hh R h
 have Jf:=Yy Jf @gB
 iterate 5 (first|apply Zk|refine Zq Hh (Zp Za c9) Yb ?_)
 iterate 2 (first|apply Yt|refine Zq Hh (Yp Za cA) Yb ?_)
 refine Uc fun hC eC=>?_
 have nC:hC.next=b1+4:=by rw[eC]; simp only[H.Zd,H.Zb,hb1]
 have kC:∀ m,m<hB.next→hC.get m=hB.get m:=fun m hm=>by rw[eC]; exact Yc
 have a13:hC.get b1=some (.row 1 [[.ptr R 0]] false):=by rw[eC,←hb1]; exact Zc
 have a14:hC.get (b1+1)=some (.row 1 [[.bool false]] false):=by rw[eC,←hb1]; exact Zc
 have a15:hC.get (b1+2)=some (.row 1 [[.int .i64 0]] false):=by rw[eC,←hb1]; exact Zc
 have a7:hC.get (b1+3)=some (.row 1 [[.ptr R 0]] false):=by rw[eC,←hb1]; exact Zc
 clear eC
 show Ye 105 none (q9 [1,1,1,1,1,1,0,1,2]) _ _ _ _
 refine Zxq fun ts hts=>?_
 refine (Zl7 Hh f m0 nC (p6:=h.next) (by omega) (R:=R) (by omega) (by omega) ip db y3 (MB.keep (by omega) fun m hm=>kC m (by omega)) ((kC R (by omega)).trans BR) ((kC _ (by omega)).trans gB) a13 a14 a15 a7 ?_ ?_ ?_ ?_ ?_).mono ?_
 ·rw[hts]; exact Zc
 ·rw[hts,←hb1]; exact Zc
 ·rw[hts,←hb1]; exact Zc
 ·rw[hts,←hb1]; exact Zc
 ·rw[hts,←hb1]; exact Zc
 rintro x1 ds1 ts1 h1 ⟨rfl,rfl,rfl,gd,c6,c13,c14,c15,M1,⟨cs,R1⟩,n1,k1⟩
 subst hts
 obtain⟨g0,g1,g2,g3,g4,g5⟩:=Ej (n:=n) (s:=cs) (e:=0) yl
 obtain⟨r0,hr0⟩:∃ r,rdC n y cs 0=r:=⟨_,rfl⟩
 have R1':=R1
 rw[hr0] at R1 g1 g3
 have kk:∀ m,m<h.next→m≠n+6→h1.get m=h.get m:=fun m hm m6=>(k1 m hm m6).trans ((kC m (by omega)).trans ((kB.2 m (by omega) m6).trans (kA m hm)))
 rw[th] at c14
 rw[fz] at c15
 have Egd0:=gd
 have n1':h.next≤h1.next:=by omega
 have nb1:n+23≤b1:=by omega
 have ez:(((0:Nat):Int) == 0)=true:=rfl
 obtain⟨hE,c23,ME,kE⟩:=hG M1
 have nE:=kE.1
 have Egd:=(kE.2 (b1+4) (by omega) ⟨⟨by omega,by omega,by omega,by omega,by omega⟩,by omega⟩).trans gd
 have Jf:=U1 @f @hs @gl @ht (Yu @dm @du1 @du2 @Ff @wu @gB @gd @c6 (Yu @c13 @c14 @c15 @R1 @g1 @g3 @hb1 @ez @Zrc))
 iterate 12 (first|apply Zk|apply Yt|refine Goes.Zi Yb ?_|refine Zq Hh Za Yb ?_)
 iterate 2 (first|apply Z0|refine Ed Hh (Zp Za c23) Zoz ?_)
 refine⟨_,_,(by have Jf:=Yy @Egd @hb1; exact Zj),rfl,ME.keep ?_ fun m hm=>?_,⟨?_,fun m hm ho=>?_⟩⟩
 ·simp only[H.Zd,H.Yv]<;>omega
 ·exact Yc
 ·simp only[H.Zd,H.Yv]<;>omega
 ·refine Eq.trans ?_ ((kE.2 m (by omega) ho).trans (kk m hm ho.1.1)); exact Yc
end
end Go.Proofs.YtecakmodlkbnaaaGreatDoor
