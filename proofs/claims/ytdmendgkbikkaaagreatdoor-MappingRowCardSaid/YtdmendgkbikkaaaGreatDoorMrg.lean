/- quernlaw25.wide: a wide file system; what All and Free say of a row's file. -/
import Derived.Test.YtdmendgkbikkaaaGreatDoorMrl
import Derived.Test.YtdmendgkbikkaaaGreatDoorMal
import Derived.Test.YtdmendgkbikkaaaGreatDoorBfe
import Derived.Test.YtdmendgkbikkaaaGreatDoorIin
import Derived.Test.YtdmendgkbikkaaaGreatDoorMtw
import Derived.Test.YtdmendgkbikkaaaGreatDoorMri
import Derived.Test.YtdmendgkbikkaaaGreatDoorEvC
set_option linter.unusedSimpArgs false
set_option linter.unusedVariables false
set_option linter.unusedSectionVars false
set_option maxRecDepth 100000
set_option maxHeartbeats 4000000
namespace Go.Proofs.YtdmendgkbikkaaaGreatDoor
open Go.Ev
noncomputable def q5 (p:List Nat):Code:=piece p (Ut Tryz.f5)
theorem rs5:Tryz.f5.results.toList=[.cell 2 28,.tmp 3]:=rfl
attribute [go_sem] rs5
theorem lfB (p:Nat):Yv K 117 (.c (.slice p 0 282 256))=true:=by kernel_rfl
theorem lfT:Yv K 55 (.c .snil)=true:=by kernel_rfl
theorem HE.Z4w {n q a b c e w:Nat} {cr:Cr} {md:Int} {S T:List Nat} {V:Nat→List Nat} {h h2:Go.Ev.H} {y:List (List C)} {ro:Bool} (M:HE n q a b c e cr md S T V h) (hw:h.get w=some (.row 4 y ro)) (w0:0<w) (wn:w<n) (nx:h.next≤h2.next) (k:∀ m,m<q+9→m≠w→h2.get m=h.get m):HE n q a b c e cr md S T V h2:=by
 obtain⟨d,d1,d2,kn,ld,lt,lc,lm,L,f1,f2,f3,f4,f5,f6,f7,f8,f9,f10,f11,M⟩:=M
 refine⟨d,d1,d2,kn,ld,lt,lc,lm,L,f1,f2,f3,f4,f5,f6,f7,f8,f9,f10,f11,?_⟩
 obtain⟨f1,f2,f3,f4,l1,l2,f5,f6,f7,f8,f9,f10,f11,f12,f13,f14,f15,f16,f17,f18,f19,f20,f21⟩:=M
 have wd:d≠w:=fun e=>by
  rw[e,hw] at f8
  have:=(O.row.inj (Option.some.inj f8)).1
  omega
 have wq:d2≠w:=fun e=>by
  rw[e,hw] at f9
  have:=(O.row.inj (Option.some.inj f9)).1
  omega
 have db:=Zjd q cr
 exact⟨(k _ (by omega) (by omega)).trans f1,f2,f3,by omega,l1,l2,(k _ (by omega) (by omega)).trans f5,(k _ (by omega) (by omega)).trans f6,(k _ (by omega) (by omega)).trans f7,(k _ (by omega) (by omega)).trans f8,(k _ (by omega) (by omega)).trans f9,(k _ (by omega) (by omega)).trans f10,(k _ (by omega) (by omega)).trans f11,(k _ (by omega) (by omega)).trans f12,(k _ (by omega) (by omega)).trans f13,(k _ (by omega) (by omega)).trans f14,(k _ (by omega) (by omega)).trans f15,(k _ (by omega) (by omega)).trans f16,f17,(k _ (by omega) (by omega)).trans f18,(k _ (by omega) (by omega)).trans f19,(fun o=>(k _ (by omega) (by omega)).trans (f20 o)),(k _ (by omega) (by omega)).trans f21⟩
section
variable (Hh:Hearts K Tryz.prog)
include Hh
theorem Z31 {mo:Nat} (mo1:mo<256) {h:Go.Ev.H} (hst:h.get 0=some Gr) (l0:0<h.next) :
  ∃ h' n r d y,Zg 5 [.c (.int .u8 (mo:Int))] h (.tup [.g [.ptr (n+13) 0,.ptr r 0,.ptr d 0,.ptr y 0],.c (.bool true)]) h'∧HE n (n+14) 4 60 8 40 (Cr.cl []) (1+((mo % 3:Nat):Int)) [] [] V4 h'∧h.next≤n∧∀ m,m<h.next→h'.get m=h.get m:=by
 have rm3:Ti .u8 (mo:Int) 3=some (.int .u8 ((mo % 3:Nat):Int)):=Xw (b:=3) (by omega)
 have k3:=Nat.mod_lt mo (show 0<3 by omega)
 obtain⟨k,hk⟩:∃ k,mo % 3=k:=⟨_,rfl⟩
 rw[hk] at rm3 k3 ⊢
 obtain⟨md,hmd⟩:∃ md:Int,1+(k:Int)=md:=⟨_,rfl⟩
 have m1:1≤md∧md≤3:=by omega
 have wmd:Yq .u8 (1+(k:Int))=.int .u8 md:=by rw[Zdx (by omega),hmd]
 rw[hmd]
 obtain⟨v,h',cc,n,r,d,y,rfl,M',hn,kk⟩:∃ v h',Zg 5 [.c (.int .u8 (mo:Int))] h v h'∧∃ n r d y,v=.tup [.g [.ptr (n+13) 0,.ptr r 0,.ptr d 0,.ptr y 0],.c (.bool true)]∧HE n (n+14) 4 60 8 40 (Cr.cl []) md [] [] V4 h'∧h.next≤n∧∀ m,m<h.next→h'.get m=h.get m:=by
  refine Jd Hh Tryz.f5 ?_
  have Jf:=Uq @rm3 @wmd
  iterate 3 (first|apply Zp|refine Zy Hh Za Zde ?_)
  refine Dc fun hA eA=>?_
  have nA:hA.next=h.next+1:=by rw[eA]; simp only[H.Zf,H.Zc]
  have kA:∀ m,m<h.next→hA.get m=h.get m:=fun m hm=>by rw[eA]; exact Jg
  obtain⟨y2,y2l,a2⟩:∃ y:List C,y.length=4∧hA.get h.next=some (.row 4 [y] false):=⟨_,rfl,by rw[eA]; exact Jk⟩
  clear eA
  obtain⟨hW,n,d,d1,d2',r,y,c1,MW,nW,kW⟩:=Z1k Hh m1.1 m1.2 (h:=hA) ((kA 0 l0).trans hst) (by omega) lfB lfT
  have wx:=MW.nx
  have W2:=(kW h.next (by omega)).trans a2
  have Jf:=Uc Jf @W2 @y2l
  iterate 2 (first|apply Yb|refine Zy Hh (Zu Za c1) Zde ?_)
  refine⟨_,_,Z5,n,r,d,y,rfl,(MW.closed (fun z z1 _=>Z2d z z1)).Z4w W2 (by omega) (by omega) ?_ (fun m hm hne=>?_),by omega,fun m hm=>?_⟩
  ·simp only[H.Zf,H.Zc,H.Yo]<;>omega
  ·exact Jg
  ·refine Eq.trans ?_ ((kW m (by omega)).trans (kA m hm)); exact Jg
 exact⟨h',n,r,d,y,cc,M',hn,kk⟩
end
def Zxa (N:Nat):List Nat:=(List.range (inc N)).map Em
theorem Zxb (N:Nat):(Zxa N).length=inc N:=by unfold Zxa; rw[List.length_map,List.length_range]
theorem Zo3 (N:Nat):(Zxa N).Nodup:=by
 unfold Zxa
 exact List.pairwise_map.2 (List.Pairwise.imp (fun ne e=>ne ((Z3s (i:=0) (by omega)).inj _ _ e)) List.nodup_range)
theorem inc_le {N:Nat} (h:N≤100):N≤inc N∧inc N≤103:=by
 unfold inc
 split
 ·omega
 ·split<;>omega
theorem O5 {k:Nat} (h:k<128):Og 4 60 8 40 (Em k:Nat)=true∧Em k<2+40+4 * 60∧0<Em k:=(Z3s (i:=0) (by omega)).old k h
section
variable {V:Nat→List Nat} {P:Nat→Nat} {N:Nat}
theorem Zw7 (R:RowF Em V P N) (h:N≤100):allT V P 11=Zxa N:=R.all (fun k hk=>by have:=(O5 hk).2.2; omega) h
theorem Z04 (R:RowF Em V P N) (p:Nat) (hp:p<11):Tu 4 60 8 40 V (Ml p) (P p):=by
 obtain⟨pd,p8,p9,p10,v8,v9,v10⟩:=R
 rcases Nat.lt_or_ge p 8 with w|w
 ·rw[show Ml p=0 by unfold Ml; omega]; exact True.intro
 have w3:p=8∨p=9∨p=10:=by omega
 rcases w3 with rfl|rfl|rfl
 ·intro z
  rw[p8] at z ⊢
  by_cases q:8<N
  ·rw[if_pos q] at z ⊢
   exact⟨(O5 (by omega)).1,(O5 (by omega)).2.1,fun _ _=>True.intro⟩
  ·rw[if_neg q] at z; exact absurd rfl z
 ·intro z
  rw[p9] at z ⊢
  by_cases q:72<N
  ·rw[if_pos q] at z ⊢
   refine⟨(O5 (by omega)).1,(O5 (by omega)).2.1,fun w hw z2=>?_⟩
   rw[v9 q w hw] at z2 ⊢
   by_cases e:w=0
   ·rw[if_pos e] at z2 ⊢
    exact⟨(O5 (by omega)).1,(O5 (by omega)).2.1,fun _ _=>True.intro⟩
   ·rw[if_neg e] at z2; exact absurd rfl z2
  ·rw[if_neg q] at z; exact absurd rfl z
 ·intro z
  rw[p10] at z
  exact absurd rfl z
theorem Z3u (R:RowF Em V P N) {j:Nat} (hj:j<110):Zuf 4 60 8 40 V (P (Uk j).1) (Uk j).2:=by
 obtain⟨pd,p8,p9,p10,v8,v9,v10⟩:=R
 rcases Nat.lt_or_ge j 8 with w|w
 ·rw[X3 w]; intro t ht; exact absurd ht (by simp)
 rcases Nat.lt_or_ge j 72 with w2|w2
 ·rw[X4 w w2]
  intro t ht z
  obtain rfl:t=0:=by simpa using ht
  have z':P 8≠0:=z
  show Og _ _ _ _ ((P 8:Nat):Int)=true∧P 8<_
  rw[p8] at z' ⊢
  by_cases q:8<N
  ·rw[if_pos q]
   exact⟨(O5 (by omega)).1,(O5 (by omega)).2.1⟩
  ·rw[if_neg q] at z'; exact absurd rfl z'
 ·rw[Za9 w2 (by omega)]
  intro t ht z
  have t2:t=0∨t=1:=by
   have:t<2:=ht
   omega
  rcases t2 with rfl|rfl
  ·have z':P 9≠0:=z
   show Og _ _ _ _ ((P 9:Nat):Int)=true∧P 9<_
   rw[p9] at z' ⊢
   by_cases q:72<N
   ·rw[if_pos q]
    exact⟨(O5 (by omega)).1,(O5 (by omega)).2.1⟩
   ·rw[if_neg q] at z'; exact absurd rfl z'
  ·have z':(if P 9=0 then 0 else Y5 (V (P 9)) (4 * 0))≠0:=z
   show Og _ _ _ _ (((if P 9=0 then 0 else Y5 (V (P 9)) (4 * 0)):Nat):Int)=true∧(if P 9=0 then 0 else Y5 (V (P 9)) (4 * 0))<_
   rw[p9] at z' ⊢
   by_cases q:72<N
   ·rw[if_pos q] at z' ⊢
    rw[if_neg (by have:=(O5 (k:=73) (by omega)).2.2; omega),v9 q 0 (by omega),if_pos rfl]
    exact⟨(O5 (by omega)).1,(O5 (by omega)).2.1⟩
   ·rw[if_neg q,if_pos rfl] at z'; exact absurd rfl z'
end
theorem Zrk {m:Nat} (h:m≤112):Za8 (DG 4 60 8 (iw0 8) m)=224 - m:=by
 have ff:fF 60 8=56:=rfl
 unfold DG Za8
 rw[ff,show List.range 4=[0,1,2,3] from rfl]
 simp only[List.map_cons,List.map_nil,List.sum_cons,List.sum_nil]
 omega
theorem Zw8 (m:Nat):∀ x∈DG 4 60 8 (iw0 8) m,x.1≤2048:=fun x hx=>by
 have ff:fF 60 8=56:=rfl
 unfold DG at hx
 obtain⟨k,_,rfl⟩:=List.mem_map.1 hx
 show fF 60 8 - _≤2048
 rw[ff]
 omega
noncomputable def q3 (p:List Nat):Code:=piece p (Ut Tryz.f3)
theorem rs3:Tryz.f3.results.toList=[.tmp 4]:=rfl
attribute [go_sem] rs3
section
variable (Hh:Hearts K Tryz.prog)
include Hh
theorem Zzz {n q N p5 p9:Nat} {r d y:Nat} {md:Int} {V:Nat→List Nat} {P:Nat→Nat} {x:List C} (m0:md≠0) (N1:N≤100) (X:InoP x P) (R:RowF Em V P N) (n5:n+7≤p5∧n+7≤p9):∀ (k j:Nat) (ts:Zw) (h:Go.Ev.H),j+k=110→HE n q 4 60 8 40 (Cr.cl chM) md [] [] V h→h.get p5=some (.row 4 [[.ptr (n+13) 0,.ptr r 0,.ptr d 0,.ptr y 0]] false)→h.get p9=some (.row 16 [x] false)→p5<h.next→p9<h.next→Zi ts 1=.w (.c (.int .i64 (N:Int)))→Zi ts 5=.w (.c (.ptr p5 0))→Zi ts 9=.w (.c (.ptr p9 0))→Zi ts 15=.w (.c (.int .i64 (j:Int))) →
  Ya 111 none (q3 [1,1,1,1,1,1,1,1,1,0,1,2]) [] ts h fun x' ds' ts' h'=>x'=.exit 0∧ds'=[]:=by
 have xl:=X.xl
 intro k
 induction k with
 | zero =>
  intro j ts h hj M g5 g9 l5 l9 t1 t5 t9 t15
  obtain rfl:j=110:=by omega
  have Jf:=@t15
  iterate 6 (first|apply Zp|apply Oe|apply Yt|refine Goes.Zn Zq ?_|refine Zy Hh Za Zq ?_)
  exact⟨rfl,rfl⟩
 | succ k ih =>
  intro j ts h hj M g5 g9 l5 l9 t1 t5 t9 t15
  have jl:j<110:=by omega
  obtain⟨h1,cF,M1,k1⟩:=Z0j Hh Vl m0 M X (i:=j) jl (Z3u R jl)
  have nx:=M.nx
  rw[R.find (fun k hk=>by have:=(O5 hk).2.2; omega) N1 jl] at cF
  have dd:decide ((j:Int)<110)=true:=decide_eq_true (by omega)
  have s5:=(k1.2 p5 l5 (by omega)).trans g5
  have s9:=(k1.2 p9 l9 (by omega)).trans g9
  by_cases w:j<N
  ·rw[if_pos w] at cF
   have bk:=(O5 (k:=bI j) (by unfold bI; split<;>(first|omega|(split<;>omega)))).2.2
   obtain⟨B,hB⟩:∃ B,Em (bI j)=B:=⟨_,rfl⟩
   rw[hB] at cF bk
   have e0:((B:Int) == 0)=false:=Bl (by omega)
   have d2:decide ((j:Int) ≥ (N:Int))=false:=decide_eq_false (by omega)
   have Jf:=Uc @t1 @t5 (Ur @t9 @t15 @dd @g5 @g9 @xl @Zj3 @e0 @d2)
   iterate 9 (first|apply Zp|apply Z6|apply Yk|apply Yt|refine Goes.Zn Z5 ?_|refine Zy Hh Za Z5 ?_)
   refine Goes.ops2 fits Hh (Zu Za cF) (by
    iterate 10 (refine Y9 (by simp (maxSteps:=9^6) +decide (disch:=first|omega|(simp only[lens]<;>omega)|decide) only [go_sem,Ze,simprocAttr,Z8,t1,t5,t9,t15,dd,g5,g9,xl,Zj3,e0,d2]<;>rfl) ?_)
    exact Y8) ?_
   apply Zp
   refine Goes.ops2 fits Hh Za (by
    iterate 10 (refine Y9 Z5 ?_)
    exact Y8) ?_
   iterate 3 (first|apply Z6|refine Goes.Zn Z5 ?_|refine Zy Hh Za Z5 ?_)
   show Ya 111 none (q3 [1,1,1,1,1,1,1,1,1,0,1,2]) _ _ _ _
   refine ih (j+1) _ h1 (by omega) M1 s5 s9 (by have:=k1.1; omega) (by have:=k1.1; omega) ?_ ?_ ?_ ?_
   ·have Jf:=@t1; exact Zq
   ·have Jf:=@t5; exact Zq
   ·have Jf:=@t9; exact Zq
   ·exact Zj
  ·rw[if_neg w] at cF
   have d2:decide ((j:Int) ≥ (N:Int))=true:=decide_eq_true (by omega)
   have Jf:=Uq @t1 (Ur @t5 @t9 @t15 @dd @g5 @g9 @xl @Zj3 @d2)
   iterate 9 (first|apply Zp|apply Z6|apply Yk|apply Yt|refine Goes.Zn Z5 ?_|refine Zy Hh Za Z5 ?_)
   refine Goes.ops2 fits Hh (Zu Za cF) (by
    iterate 10 (refine Y9 (by simp (maxSteps:=9^6) +decide (disch:=first|omega|(simp only[lens]<;>omega)|decide) only [go_sem,Ze,simprocAttr,Z8,t1,t5,t9,t15,dd,g5,g9,xl,Zj3,d2]<;>rfl) ?_)
    exact Y8) ?_
   apply Zp
   refine Goes.ops2 fits Hh Za (by
    iterate 10 (refine Y9 Z5 ?_)
    exact Y8) ?_
   iterate 3 (first|apply Z6|refine Goes.Zn Z5 ?_|refine Zy Hh Za Z5 ?_)
   show Ya 111 none (q3 [1,1,1,1,1,1,1,1,1,0,1,2]) _ _ _ _
   refine ih (j+1) _ h1 (by omega) M1 s5 s9 (by have:=k1.1; omega) (by have:=k1.1; omega) ?_ ?_ ?_ ?_
   ·have Jf:=@t1; exact Zq
   ·have Jf:=@t5; exact Zq
   ·have Jf:=@t9; exact Zq
   ·exact Zj
theorem Zsw {h:Go.Ev.H} (hst:h.get 0=some Gr) (l0:0<h.next) {mo:Nat} (mo1:mo<256) (nn:Int) :
  ∃ h',Zg 3 [.c (.int .u8 (mo:Int)),.c (.int .i64 nn)] h (.w (.c (.bool true))) h':=by
 have wz:=Zxr nn
 obtain⟨Z,hZ⟩:∃ Z,(nn % 18446744073709551616).toNat=Z:=⟨_,rfl⟩
 rw[hZ] at wz
 have rm7:Ti .u64 (Z:Int) 101=some (.int .u64 ((Z % 101:Nat):Int)):=Xw (b:=101) (by omega)
 have j7:=Nat.mod_lt Z (show 0<101 by omega)
 obtain⟨N,hN⟩:∃ N,Z % 101=N:=⟨_,rfl⟩
 rw[hN] at rm7 j7
 have N1:N≤100:=by omega
 have md0:(1+((mo % 3:Nat):Int))≠0:=by omega
 obtain⟨hW,n,r,d,y,cW,MW,nW,kW⟩:=Z31 Hh mo1 hst l0
 obtain⟨md,hmd⟩:∃ md:Int,1+((mo % 3:Nat):Int)=md:=⟨_,rfl⟩
 rw[hmd] at MW md0
 have wx:=MW.nx
 obtain⟨iN,i103⟩:=inc_le N1
 have f0:=Zrk (m:=0) (by omega)
 have fN:=Zrk (m:=inc N) (by omega)
 have Lln:=Zxb N
 have nd:=Zo3 N
 have e74:(N:Int)+((inc N - N:Nat):Int)=((inc N:Nat):Int):=by omega
 have e82:((224:Nat):Int) - ((inc N:Nat):Int)=((224 - inc N:Nat):Int):=by omega
 have e75:(((inc N:Nat):Int) != ((inc N:Nat):Int))=false:=Zv3 rfl
 have e83:(((224 - inc N:Nat):Int) != ((224 - inc N:Nat):Int))=false:=Zv3 rfl
 obtain⟨v,h',cc,rfl⟩:∃ v h',Zg 3 [.c (.int .u8 (mo:Int)),.c (.int .i64 nn)] h v h'∧v=.w (.c (.bool true)):=by
  refine Jd Hh Tryz.f3 ?_
  have Jf:=Uc @wz @rm7 @Zj3
  iterate 5 (first|apply Zp|refine Zy Hh Za Df ?_)
  iterate 7 (first|apply Zp|apply Z6|refine Goes.Zn Df ?_|refine Zy Hh (Zu Za cW) Df ?_)
  refine Dc fun hA eA=>?_
  have nA:hA.next=hW.next+1:=by rw[eA]; simp only[H.Zf,H.Zc]
  have kA:∀ m,m<hW.next→hA.get m=hW.get m:=fun m hm=>by rw[eA]; exact Jg
  have a5:hA.get hW.next=some (.row 4 [[.ptr (n+13) 0,.ptr r 0,.ptr d 0,.ptr y 0]] false):=by rw[eA]; exact Jk
  clear eA
  have MA:=(MW.keep (h2:=hA) (by omega) (fun m hm=>kA m (by omega))).widen (C:=chM) (fun k hk=>by cases hk)
  obtain⟨h1,c5,M1,k1⟩:=Zvu Hh Vl MA alM.des (Zw8 0)
  rw[f0] at c5
  have n1:=k1.1
  have b5:=(k1.2 _ (by omega) (by omega)).trans a5
  obtain⟨x,h2,c6,⟨q2,V2,P2,M2,al2,X2,R2⟩,n2,k2⟩:=rowOk Hh (N:=N) md0 N1 M1 (r:=r) (d:=d) (y:=y) (by omega) alM
  have r5:=(k2 _ (by omega) (by omega)).trans b5
  have xl:=X2.xl
  have Jf:=Oz Jf @a5 @b5 @r5
  iterate 2 (first|apply Zp|refine Zy Hh (Zu Za c5) Df ?_)
  iterate 2 (first|apply Zp|refine Zy Hh (Zu Za c6) Df ?_)
  refine Dc fun hB eB=>?_
  have nB:hB.next=h2.next+1:=by rw[eB]; simp only[H.Zf,H.Zc]
  have kB:∀ m,m<h2.next→hB.get m=h2.get m:=fun m hm=>by rw[eB]; exact Jg
  have b9:hB.get h2.next=some (.row 16 [x] false):=by rw[eB]; have Jf:=@xl; exact Z5
  clear eB
  have B5:=(kB _ (by omega)).trans r5
  have MB:=M2.keep (h2:=hB) (by omega) (fun m hm=>kB m (by have:=M2.nx; omega))
  obtain⟨cs,h3,c7,sl,M3,n3,k3⟩:=Z3d Hh Vl md0 MB X2 (Z04 R2) (by rw[Zw7 R2 N1,Lln]; omega)
  rw[Zw7 R2 N1] at sl
  have s5:=k3 _ _ (by omega) (by omega) B5
  have s9:=k3 _ _ (by omega) (by omega) b9
  obtain⟨h4,c8,M4,k4⟩:=Zvu Hh Vl M3 al2.des (Zw8 _)
  rw[fN] at c8
  have n4:=k4.1
  have u5:=(k4.2 _ (by omega) (by omega)).trans s5
  have u9:=(k4.2 _ (by omega) (by omega)).trans s9
  have sl4:=sl.keep n4 (fun p h1 h2=>k4.2 p h2 (by omega))
  obtain⟨h5,c9,n5,k5⟩:=Z5g Hh N1 (h:=h4) (by omega)
  have sl5:=sl4.keep n5 (fun p h1 h2=>k5 p h2)
  obtain⟨lf,ln⟩:=Zwc sl4.1
  rw[Lln] at ln
  have c10:=Z1e Hh nd (by rw[Lln]; omega) sl5.1
  have M5:=M4.keep (h2:=h5) n5 (fun m hm=>k5 m (by have:=M4.nx; omega))
  have w5:=(k5 _ (by omega)).trans u5
  have w9:=(k5 _ (by omega)).trans u9
  have Jf:=Qu Jf @B5 @b9 @xl @s5 (Ur @s9 @u5 @u9 @lf @ln @e74 @e75 @e82 @e83)
  iterate 2 (first|apply Zp|refine Zy Hh (Zu Za c7) Df ?_)
  iterate 3 (first|apply Zp|refine Zy Hh (Zu Za c8) Df ?_)
  refine Goes.ops2 fits Hh (Zu (Zu Za c9) c10) (by
   iterate 35 (refine Y9 (by simp (maxSteps:=9^6) +decide (disch:=first|omega|(simp only[lens]<;>omega)|decide) only [go_sem,Ze,simprocAttr,Z8,wz,rm7,Zj3,a5,b5,r5,B5,b9,xl,s5,s9,u5,u9,lf,ln,e74,e75,e82,e83,Zt]<;>rfl) ?_)
   exact Y8) ?_
  iterate 6 (first|apply Zp|apply Z6|apply Yk|refine Goes.Zn Df ?_|refine Zy Hh Za Df ?_)
  refine (Zzz Hh (n:=n) (q:=q2) (N:=N) (p5:=hW.next) (p9:=h2.next) (r:=r) (d:=d) (y:=y) md0 N1 X2 R2 ⟨by omega,by omega⟩ 110 0 _ h5 (by omega) M5 w5 w9 (by omega) (by omega) ?_ ?_ ?_ ?_).mono ?_
  ·exact Zj
  ·exact Zj
  ·exact Zj
  ·exact Zj
  rintro x1 d1 u1 h6 ⟨rfl,rfl⟩
  iterate 3 (first|apply Zp|apply Yb|refine Zy Hh Za Zj ?_)
  exact⟨_,_,Zj,rfl⟩
 exact⟨h',cc⟩
end
end Go.Proofs.YtdmendgkbikkaaaGreatDoor
set_option maxRecDepth 100000
namespace Go.Proofs.YtdmendgkbikkaaaGreatDoor
open Go.Ev Go.ChangeShapes Go.WideShapes
section
variable (Hh:Hearts K Tryz.prog)
include Hh
theorem Ziz {W:World} {cs:Array Value} {t:TypeId} {fr:Nat × Nat} (hb:W.heap[0]? = some (.cells cs t fr)) (hcs:cs.toList=steps16.map (Value.int .u32)) (z0 z1:Int) (wf0:(Lit.int .u8 z0).wf=true) :
  Calls Tryz.prog 3 #[.int .u8 z0,.int .i64 z1] W fun e W'=>e=.returned (.bool true)∧Go.RowKit.Below W.heap.size W W':=by
 obtain⟨m0,m1⟩:=wf_u8 wf0
 obtain⟨mo,rfl⟩:=Int.eq_ofNat_of_zero_le m0
 have h0:(Ze5 none none).get 0=some Gr:=by
  unfold Ze5
  rw[Zrj _ _ (by omega),Zrj _ _ (by omega)]
  rfl
 have nx:(Ze5 none none).next=3:=by unfold Ze5; rw[Zh0,Zh0]
 obtain⟨h',cc⟩:=Zsw Hh h0 (by omega) (mo:=mo) (by omega) z1
 exact Zix (ρ:=Zmq ⟨0,0,0⟩ ⟨0,0,0⟩) (vals:=[.int .u8 (mo:Int),.int .i64 z1]) (Zw6 hb hcs (fun _ _ e=>by cases e) (fun _ _ e=>by cases e)) (by rw[nx]; exact Ztg ⟨0,0,0⟩ ⟨0,0,0⟩) (fun n o e=>Ze6 e) cc ⟨rfl,rfl,trivial⟩
end
end Go.Proofs.YtdmendgkbikkaaaGreatDoor
