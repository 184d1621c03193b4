/- The wide file system of layer 25: a handle for each block of a row. -/
import Derived.Test.YtdmendgkbikkaaaGreatDoorObg
import Derived.Test.YtdmendgkbikkaaaGreatDoorAlh
import Derived.Test.YtdmendgkbikkaaaGreatDoorHcy
import Derived.Test.YtdmendgkbikkaaaGreatDoorMra
set_option linter.unusedSimpArgs false
set_option linter.unusedVariables false
set_option linter.unusedSectionVars false
set_option maxRecDepth 100000
set_option maxHeartbeats 4000000
namespace Go.Proofs.YtdmendgkbikkaaaGreatDoor
open Go.Ev
theorem Vl:Y2 4 60 8 40=true:=by kernel_rfl
def Em (m:Nat):Nat:=Zbo 60 8 40 m
def chM:List Nat:=[1,42,102,Em 8,Em 73,Em 74]
theorem Qz (m:Nat):Em m=46+m / 56 * 60+m % 56:=by
 show 2+40+m / 56 * 60+(2+8 / 4+m % 56)=_
 omega
theorem Z6e:∀ k∈chM,k<4096:=by
 intro k hk
 unfold chM at hk
 rw[Qz,Qz,Qz] at hk
 simp only[List.mem_cons,List.not_mem_nil,or_false] at hk
 omega
theorem Zv7 (i:Nat):inc i≤inc (i+1):=by
 unfold inc
 by_cases w1:i≤8
 ·rw[if_pos w1]
  split
  ·omega
  ·split<;>omega
 ·rw[if_neg w1,if_neg (by omega:¬ i+1≤8)]
  by_cases w2:i≤72
  ·rw[if_pos w2]
   split<;>omega
  ·rw[if_neg w2,if_neg (by omega:¬ i+1≤72)]
   omega
theorem alM:AlG 4 60 8 40 (iw0 8) V4 0:=by
 refine⟨fun k hk=>?_,⟨by kernel_rfl,by kernel_rfl,Zbm⟩,Znl (Zv9 (by omega))⟩
 match k,hk with
 | 0,_=>exact (by kernel_rfl:V4 42=Zgv (gG 60 8 0 0))
 | 1,_=>exact (by kernel_rfl:V4 102=Zgv (gG 60 8 0 1))
 | 2,_=>exact (by kernel_rfl:V4 162=Zgv (gG 60 8 0 2))
 | 3,_=>exact (by kernel_rfl:V4 222=Zgv (gG 60 8 0 3))
 | k+4,hk=>omega
def nkM (lo near:Nat):Prop:=near<9223372036854775808∧Du 4 60 8 40 near * fF 60 8≤lo
theorem Z3s {i:Nat} (hi:i<100):RowB 4 60 8 40 chM (mtG 4 60 40) (nkM (inc i)) Em i:=by
 have bn:∀ k,k<128→Em k<282∧42≤Em k:=fun k hk=>by rw[Qz]; omega
 have n0:Du 4 60 8 40 0=0:=by kernel_rfl
 refine⟨fun k l e=>Zla Vl e,fun k hk=>by have:=bn k hk; omega,fun k hk w=>?_,fun k hk=>⟨V3 (Yh Vl) (bn k hk).2 (bn k hk).1,(bn k hk).1,by have:=bn k hk; omega⟩,⟨by omega,by rw[n0]; omega⟩,fun k hk=>⟨?_,?_⟩,fun k hk=>?_⟩
 ·rcases w with w|⟨g,_,w⟩
  ·have:=bn k hk; omega
  ·exact Zlb (m:=k) Vl (k:=g) (r:=0) (by omega) w
 ·rcases hk with ⟨rfl,_⟩|⟨rfl|rfl,_⟩<;>(rw[Qz]; omega)
 ·have n8:Du 4 60 8 40 (Em 8)=0:=by kernel_rfl
  have n73:Du 4 60 8 40 (Em 73)=1:=by kernel_rfl
  have n74:Du 4 60 8 40 (Em 74)=1:=by kernel_rfl
  have ff:fF 60 8=56:=rfl
  rw[ff]
  rcases hk with ⟨rfl,_⟩|⟨rfl|rfl,h72⟩
  ·rw[n8]; omega
  ·rw[n73]; unfold inc; split
   ·omega
   ·split<;>omega
  ·rw[n74]; unfold inc; split
   ·omega
   ·split<;>omega
 ·unfold chM
  rcases hk with rfl|rfl|rfl<;>simp
section
variable (Hh:Hearts K Tryz.prog)
include Hh
variable {n q:Nat} {md:Int} {V:Nat→List Nat} {h:Go.Ev.H}
omit Hh in
theorem HE.widen {a b c e:Nat} {ch C S T:List Nat} (M:HE n q a b c e (Cr.cl ch) md S T V h) (hC:∀ k∈ch,k∈C):HE n q a b c e (Cr.cl C) md S T V h:=by
 obtain⟨d,d1,d2,kn,ld,lt,lc,lm,L,f1,f2,f3,f4,f5,f6,f7,f8,f9,f10,f11,M⟩:=M
 obtain⟨g1,g2,g3,g4,l1,l2,g5,g6,g7,g8,g9,g10,g11,g12,g13,g14,g15,g16,g17,g18,g19,g20,g21⟩:=M
 refine⟨d,d1,d2,kn,ld,lt,lc,lm,L,f1,f2,f3,f4,f5,f6,f7,f8,⟨(fun o=>by cases o),f9.2.1,fun z y hz=>?_⟩,f10,f11,⟨g1,g2,g3,g4,l1,l2,g5,g6,g7,g8,g9,g10,g11,g12,g13,g14,g15,g16,(fun o=>by cases o),g18,g19,(fun o=>by cases o),g21⟩⟩
 obtain⟨k,hk,e⟩:=f9.2.2 z y hz
 exact⟨k,List.mem_append.2 ((List.mem_append.1 hk).imp (hC k) id),e⟩
omit Hh in
theorem HE.Z11 {a b c e:Nat} {ch S T:List Nat} {h2:Go.Ev.H} (M:HE n q a b c e (Cr.cl ch) md S T V h) (hx:h.next≤h2.next) (k:∀ m,m<n+23∨q+7≤m∧m<q+9→h2.get m=h.get m):HE n q a b c e (Cr.cl ch) md S T V h2:=by
 obtain⟨d,d1,d2,kn,ld,lt,lc,lm,L,f1,f2,f3,f4,f5,f6,f7,f8,f9,f10,f11,M⟩:=M
 obtain⟨g1,g2,g3,g4,l1,l2,g5,g6,g7,g8,g9,g10,g11,g12,g13,g14,g15,g16,g17,g18,g19,g20,g21⟩:=M
 refine⟨d,d1,d2,kn,ld,lt,lc,lm,L,f1,f2,f3,f4,f5,f6,f7,f8,f9,f10,f11,⟨(k _ (by omega)).trans g1,g2,g3,by omega,l1,l2,(k _ (by omega)).trans g5,(k _ (by omega)).trans g6,(k _ (by omega)).trans g7,(k _ (by omega)).trans g8,(k _ (by omega)).trans g9,(k _ (by omega)).trans g10,(k (q+7+1) (by omega)).trans g11,(k _ (by omega)).trans g12,(k _ (by omega)).trans g13,(k _ (by omega)).trans g14,(k _ (by omega)).trans g15,(k (q+7) (by omega)).trans g16,g17,(k _ (by omega)).trans g18,(k _ (by omega)).trans g19,(fun o=>by cases o),(k _ (by omega)).trans g21⟩⟩
theorem Z03 (m0:md≠0) {i:Nat} (hi:i<100) (M:HE n q 4 60 8 40 (Cr.cl chM) md [] [] V h) (al:AlG 4 60 8 40 (iw0 8) V (inc i)) {x:List C} {P:Nat→Nat} (X:InoP x P) (R:RowF Em V P i) :
  ∃ h1 h2 x' P' V',Zg 12 [.c (.ptr (n+13) 0),.c (.int .i64 12),.c (.int .i64 0)] h (.w (.c (.int .i64 0))) h1∧Zg 18 [.c (.ptr (n+13) 0),.g x,.c (.int .i64 (i:Int)),.c (.int .i64 0)] h1 (.tup [.g x',.c (.int .i64 (Em (bI i):Nat)),.c (.bool true),.c (.int .i64 0)]) h2∧AlG 4 60 8 40 (iw0 8) V' (inc (i+1))∧InoP x' P'∧RowF Em V' P' (i+1)∧h.next≤h1.next∧h1.next≤h2.next∧(∀ m,m<h.next→n+23≤m→h1.get m=h.get m∧h2.get m=h.get m)∧∀ h4,h2.next≤h4.next→(∀ m,m<h2.next→h4.get m=h2.get m)→∃ h3 q',Zg 14 [.c (.ptr (n+13) 0)] h4 (.w (.c (.int .i64 0))) h3∧HE n q' 4 60 8 40 (Cr.cl chM) md [] [] V' h3∧(h4.next≤h3.next∧h4.next≤q'+5)∧∀ m,m<h4.next→n+23≤m→h3.get m=h4.get m:=by
 have c6:chM.length=6:=rfl
 obtain⟨h1,b1,M1,nx1,k1⟩:=M.beg Vl (x:=12) (r:=0) (s1:=14) (s2:=20) (C:=chM) (S':=chM) (fun k hk=>by simpa using hk) Z6e (by omega) rfl (by decide) rfl (by decide) (by decide)
 have e3:inc i+3≤4 * fF 60 8:=by
  show inc i+3≤4 * 56
  unfold inc; split
  ·omega
  ·split<;>omega
 have A:=Z6b (n:=n) (q:=h.next) (cr:=⟨12,0,true,chM⟩) (md:=md) (S:=chM) (a:=4) (b:=60) (c:=8) (e:=40) (iw:=iw0 8) (cap:=3) Hh Vl (Zv9 (by omega)) (lo:=inc i) e3 (by simp [chM]) (fun m hm=>by
  show 2+40+(inc i+m) / 56 * 60∈chM
  have:inc i+m<112:=by
   unfold inc; split
   ·omega
   ·split<;>omega
  have:(inc i+m) / 56=0∨(inc i+m) / 56=1:=by omega
  rcases this with w|w<;>(rw[w]; simp [chM]))
 obtain⟨h2,x',P',V',c2,kp2,X',M2,al2,R2⟩:=Z3t Hh Vl m0 A (m:=0) (by omega) rfl rfl rfl (Z3s hi) M1 al X R hi
 have im:=Zv7 i
 have ei:inc i+(0+(inc (i+1) - inc i))=inc (i+1):=by omega
 have nx:=M.nx
 refine⟨h1,h2,x',P',V',Zt5 Hh b1,c2,by rw[←ei]; exact al2,X',R2,nx1,kp2.1,fun m hm o=>?_,fun h4 n4 k4=>?_⟩
 ·have e1:=k1 m hm (by omega) (by omega)
  exact⟨e1,(kp2.2 m (by omega) ⟨⟨by omega,by omega,by omega,by omega,by omega⟩,by omega⟩).trans e1⟩
 ·obtain⟨h3,e4,M3,nx3,k3⟩:=(M2.keep n4 fun m hm=>k4 m (by have:=M2.nx; omega)).fin Vl (C:=chM) (fun k hk=>by
   rcases List.mem_append.1 hk with w|w<;>exact w)
  exact⟨h3,_,Zt7 Hh e4,M3,⟨by omega,by omega⟩,fun m hm o=>k3 m hm (by omega) (by omega)⟩
end
noncomputable def q7 (p:List Nat):Code:=piece p (Ut Tryz.f7)
theorem rs7:Tryz.f7.results.toList=[.cell 4 37,.tmp 5]:=rfl
attribute [go_sem] rs7
theorem Zj3 (a b c d:C):read1 4 [[a,b,c,d]] 0=some a:=rfl
section
variable (Hh:Hearts K Tryz.prog)
include Hh
theorem Z02 {n r d y N b0 pw p4 p6:Nat} {md:Int} {z4:List C} (m0:md≠0) (N1:N≤100) (pb:n+23≤b0∧b0≤pw∧b0≤p4∧b0≤p6) (pne:pw≠p4∧pw≠p6∧p4≠p6) (zl:z4.length=16):∀ (k i q:Nat) (V:Nat→List Nat) (x:List C) (P:Nat→Nat) (ts:Zw) (h:Go.Ev.H),i+k=N→HE n q 4 60 8 40 (Cr.cl chM) md [] [] V h→AlG 4 60 8 40 (iw0 8) V (inc i)→InoP x P→RowF Em V P i→h.get pw=some (.row 4 [[.ptr (n+13) 0,.ptr r 0,.ptr d 0,.ptr y 0]] false)→h.get p4=some (.row 16 [z4] false)→h.get p6=some (.row 16 [x] false)→(pw<h.next∧p4<h.next∧p6<h.next)→(p4<q+7∨q+9≤p4) →
  Zi ts 1=.w (.c (.int .i64 (N:Int)))→Zi ts 2=.w (.c (.ptr pw 0))→Zi ts 4=.w (.c (.ptr p4 0))→Zi ts 6=.w (.c (.ptr p6 0))→Zi ts 7=.w (.c (.int .i64 (i:Int))) →
  Ya 48 none (q7 [1,1,0,1,2]) [] ts h fun x' ds' ts' h'=>x'=.exit 0∧ds'=[]∧(Zi ts' 4=.w (.c (.ptr p4 0))∧Zi ts' 6=.w (.c (.ptr p6 0)))∧(∃ q' V' x' P',HE n q' 4 60 8 40 (Cr.cl chM) md [] [] V' h'∧AlG 4 60 8 40 (iw0 8) V' (inc N)∧InoP x' P'∧RowF Em V' P' N∧h'.get p6=some (.row 16 [x'] false)∧(p4<q'+7∨q'+9≤p4))∧h'.get p4=some (.row 16 [z4] false)∧h.next≤h'.next∧∀ m,m<b0→n+23≤m→h'.get m=h.get m:=by
 intro k
 induction k with
 | zero =>
  intro i q V x P ts h hi M al X R gw g4 g6 lt sep t1 t2 t4 t6 t7
  obtain rfl:i=N:=by omega
  have dd:decide ((i:Int)<(i:Int))=false:=decide_eq_false (by omega)
  have Jf:=Uc @t1 @t7 @dd
  iterate 6 (first|apply Zp|apply Oe|apply Yt|refine Goes.Zn Zq ?_|refine Zy Hh Za Zq ?_)
  refine⟨rfl,rfl,⟨?_,?_⟩,⟨q,V,x,P,M,al,X,R,g6,sep⟩,g4,Nat.le_refl _,fun _ _ _=>rfl⟩
  ·have Jf:=@t4; exact Zq
  ·have Jf:=@t6; exact Zq
 | succ k ih =>
  intro i q V x P ts h hi M al X R gw g4 g6 lt sep t1 t2 t4 t6 t7
  have iN:i<N:=by omega
  obtain⟨l1,l2,l3⟩:=lt
  obtain⟨h1,h2,x',P',V',cB,cE,al',X',R',nx1,nx2,k12,fin⟩:=Z03 Hh m0 (i:=i) (by omega) M al X R
  have w1:=(k12 pw l1 (by omega)).1.trans gw
  have w2:=(k12 pw l1 (by omega)).2.trans gw
  have s1:=(k12 p6 l3 (by omega)).1.trans g6
  have s2:=(k12 p6 l3 (by omega)).2.trans g6
  have a2:=(k12 p4 l2 (by omega)).2.trans g4
  have xl:=X.xl
  have xl':=X'.xl
  have dd:decide ((i:Int)<(N:Int))=true:=decide_eq_true (by omega)
  obtain⟨B,hB⟩:∃ B,Em (bI i)=B:=⟨_,rfl⟩
  rw[hB] at cE
  have Jf:=Mt @t1 @t2 @t6 @t7 (Ur @dd @gw @w1 @w2 @s1 @s2 @xl @xl' @Zj3)
  iterate 10 (first|apply Zp|apply Z6|apply Yk|apply Yt|refine Goes.Zn Z5 ?_|refine Zy Hh Za Z5 ?_)
  iterate 4 (first|apply Zp|apply Z6|refine Goes.Zn Z5 ?_|refine Zy Hh (Zu Za cB) Z5 ?_)
  refine Goes.ops2 fits Hh (Zu Za cE) (by
   iterate 15 (refine Y9 (by simp (maxSteps:=9^6) +decide (disch:=first|omega|(simp only[lens]<;>omega)|decide) only [go_sem,Ze,simprocAttr,Z8,t1,t2,t6,t7,dd,gw,w1,w2,s1,s2,xl,xl',Zj3]<;>rfl) ?_)
   exact Y8) ?_
  iterate 2 (apply Zp)
  refine Dc fun hA eA=>?_
  have nA:hA.next=h2.next+1:=by rw[eA]; simp only[H.Zf,H.Zc]
  have kA:∀ m,m<h2.next→hA.get m=h2.get m:=fun m hm=>by rw[eA]; exact Jg
  have gA:hA.get h2.next=some (.row 16 [x'] false):=by rw[eA]; exact Z5
  clear eA
  obtain⟨h3,q',cN,M3,⟨n3,n4⟩,k3⟩:=fin hA (by omega) kA
  have wA:=(kA pw (by omega)).trans w2
  have b3:=(k3 h2.next (by omega) (by omega)).trans gA
  have s3:=(k3 p6 (by omega) (by omega)).trans ((kA p6 (by omega)).trans s2)
  have a3:=(k3 p4 (by omega) (by omega)).trans ((kA p4 (by omega)).trans a2)
  have w3:=(k3 pw (by omega) (by omega)).trans wA
  refine Goes.ops2 fits Hh (Zu Za cN) (by
   iterate 12 (refine Y9 (by simp (maxSteps:=9^6) +decide (disch:=first|omega|(simp only[lens]<;>omega)|decide) only [go_sem,Ze,simprocAttr,Z8,t1,t2,t6,t7,dd,gw,w1,w2,s1,s2,xl,xl',Zj3,wA,b3,s3]<;>rfl) ?_)
   exact Y8) ?_
  have Jf:=Oz Jf @wA @b3 @s3
  iterate 4 (first|apply Z6|refine Goes.Zn Z5 ?_|refine Zy Hh Za Z5 ?_)
  show Ya 48 none (q7 [1,1,0,1,2]) _ _ _ _
  refine (ih (i+1) q' V' x' P' _ (h3.put p6 (.row 16 [x'] false)) (by omega) (M3.Z11 (by rw[H.Zf]; omega) fun m hm=>Zo (by omega)) al' X' R' (by rw[Zo pne.2.1]; exact w3) (by rw[Zo pne.2.2]; exact a3) (Yg ..) ⟨by rw[H.Zf]; omega,by rw[H.Zf]; omega,by rw[H.Zf]; omega⟩ (by omega) ?_ ?_ ?_ ?_ ?_).mono ?_
  ·have Jf:=@t1; exact Zq
  ·have Jf:=@t2; exact Zq
  ·have Jf:=@t4; exact Zq
  ·have Jf:=@t6; exact Zq
  ·exact Zj
  rintro x1 d1 u1 h4 ⟨q1,q2,q3,q4,q5,q6,q7⟩
  rw[H.Zf] at q6
  refine⟨q1,q2,q3,q4,q5,by omega,fun m hm ho=>(q7 m hm ho).trans ?_⟩
  rw[Zo (by omega),k3 m (by omega) ho,kA m (by omega)]
  exact (k12 m (by omega) ho).2
def Z4e:List C:=.int .u8 0 :: .int .i64 0 :: .int .u32 0 :: .int .i64 0 :: List.replicate 12 (.int .u32 0)
omit Hh in
theorem Z1u:InoP Z4e (fun _=>0):=⟨rfl,fun i hi=>by
 match i,hi with
 | 0,_=>rfl
 | 1,_=>rfl
 | 2,_=>rfl
 | 3,_=>rfl
 | 4,_=>rfl
 | 5,_=>rfl
 | 6,_=>rfl
 | 7,_=>rfl
 | 8,_=>rfl
 | 9,_=>rfl
 | 10,_=>rfl
 | i+11,h=>omega,fun _ _=>by decide⟩
omit Hh in
theorem Zw9 (V:Nat→List Nat):RowF Em V (fun _=>0) 0:=⟨fun j _=>(if_neg (by omega)).symm,(if_neg (by omega)).symm,(if_neg (by omega)).symm,rfl,fun w=>by omega,fun w=>by omega,fun w=>by omega⟩
theorem rowOk {n q r d y N:Nat} {md:Int} (m0:md≠0) (N1:N≤100) {V:Nat→List Nat} {h:Go.Ev.H} (M:HE n q 4 60 8 40 (Cr.cl chM) md [] [] V h) (n23:n+23≤h.next) (al:AlG 4 60 8 40 (iw0 8) V 0) :
  ∃ x h',Zg 7 [.g [.ptr (n+13) 0,.ptr r 0,.ptr d 0,.ptr y 0],.c (.int .i64 (N:Int))] h (.tup [.g x,.c (.bool true)]) h'∧(∃ q' V' P',HE n q' 4 60 8 40 (Cr.cl chM) md [] [] V' h'∧AlG 4 60 8 40 (iw0 8) V' (inc N)∧InoP x P'∧RowF Em V' P' N)∧h.next≤h'.next∧∀ m,m<h.next→n+23≤m→h'.get m=h.get m:=by
 have nx:=M.nx
 obtain⟨b1,hb1⟩:∃ b1,h.next=b1:=⟨_,rfl⟩
 obtain⟨v,h',cc,x,rfl,qq⟩:∃ v h',Zg 7 [.g [.ptr (n+13) 0,.ptr r 0,.ptr d 0,.ptr y 0],.c (.int .i64 (N:Int))] h v h'∧∃ x,v=.tup [.g x,.c (.bool true)]∧(∃ q' V' P',HE n q' 4 60 8 40 (Cr.cl chM) md [] [] V' h'∧AlG 4 60 8 40 (iw0 8) V' (inc N)∧InoP x P'∧RowF Em V' P' N)∧h.next≤h'.next∧∀ m,m<h.next→n+23≤m→h'.get m=h.get m:=by
  refine Jd Hh Tryz.f7 ?_
  iterate 8 (first|apply Zp|apply Yk|refine Zy Hh Za Z2f ?_)
  refine Dc fun hA eA=>?_
  have nA:hA.next=b1+3:=by rw[eA]; simp only[H.Zf,H.Zc,hb1]
  have kA:∀ m,m<h.next→hA.get m=h.get m:=fun m hm=>by rw[eA]; exact Jg
  have gw:hA.get b1=some (.row 4 [[.ptr (n+13) 0,.ptr r 0,.ptr d 0,.ptr y 0]] false):=by rw[eA,←hb1]; exact Jk
  obtain⟨z4,zl,g4⟩:∃ z4:List C,z4.length=16∧hA.get (b1+1)=some (.row 16 [z4] false):=⟨_,rfl,by rw[eA,←hb1]; exact Jk⟩
  have g6:hA.get (b1+2)=some (.row 16 [Z4e] false):=by rw[eA,←hb1]; exact Jk
  clear eA
  refine (Z02 Hh (n:=n) (r:=r) (d:=d) (y:=y) (N:=N) (b0:=b1) (pw:=b1) (p4:=b1+1) (p6:=b1+2) m0 N1 ⟨by omega,by omega,by omega,by omega⟩ ⟨by omega,by omega,by omega⟩ zl N 0 q V Z4e (fun _=>0) _ hA (by omega) (M.keep (by omega) fun m hm=>kA m (by omega)) al Z1u (Zw9 V) gw g4 g6 ⟨by omega,by omega,by omega⟩ (by omega) ?_ ?_ ?_ ?_ ?_).mono ?_
  ·exact Zj
  ·rw[←hb1]; exact Zj
  ·rw[←hb1]; exact Zj
  ·rw[←hb1]; exact Zj
  ·exact Zj
  rintro x1 d1 u1 h1 ⟨rfl,rfl,⟨t4,t6⟩,⟨q',V',x',P',M1,al1,X1,R1,c6,sep⟩,c4,n1,k1⟩
  have xl:=X1.xl
  have Jf:=Qu @t4 @t6 @c4 @c6 @zl @xl
  iterate 3 (first|apply Zp|apply Yb|refine Zy Hh Za Z5 ?_)
  refine⟨_,_,Z5,x',rfl,⟨q',V',P',M1.Z11 ?_ fun m hm=>Zo (by omega),al1,X1,R1⟩,?_,fun m hm ho=>?_⟩
  ·simp only[H.Zf]<;>omega
  ·simp only[H.Zf]<;>omega
  ·rw[Zo (by omega),k1 m (by omega) ho]; exact kA m hm
 exact⟨x,h',cc,qq⟩
end
end Go.Proofs.YtdmendgkbikkaaaGreatDoor
