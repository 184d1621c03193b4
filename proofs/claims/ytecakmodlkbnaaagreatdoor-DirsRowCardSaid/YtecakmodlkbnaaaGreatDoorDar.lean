/- DirsRow: the names that came in, one by one. -/
import Derived.Test.YtecakmodlkbnaaaGreatDoorFr28
import Derived.Test.YtecakmodlkbnaaaGreatDoorEvC
import Derived.Test.YtecakmodlkbnaaaGreatDoorDlo
import Derived.Test.YtecakmodlkbnaaaGreatDoorDai
set_option linter.unusedSimpArgs false
set_option linter.unusedVariables false
set_option linter.unusedSectionVars false
set_option maxRecDepth 100000
set_option maxHeartbeats 4000000
namespace Go.Proofs.YtecakmodlkbnaaaGreatDoor
open Go.Ev
theorem ty24:K.types.get 24=some ti24:=by kernel_rfl
theorem sz24:ti24.size=1:=by rfl
theorem ag24:ti24.agg=false:=by rfl
theorem de24:ti24.desc=(.slice 395):=by rfl
theorem ze24:ti24.zero=(.c (.snil)):=by rfl
theorem by24:ti24.bytes=24:=by rfl
theorem el24:Jj K 24=some ti395:=by kernel_rfl
theorem ty26:K.types.get 26=some ti26:=by kernel_rfl
theorem sz26:ti26.size=6:=by rfl
theorem ag26:ti26.agg=true:=by rfl
theorem fo26_0:Zt K 26 0=some (0,ti23):=by kernel_rfl
theorem fo26_1:Zt K 26 1=some (4,ti5):=by kernel_rfl
theorem fo26_2:Zt K 26 2=some (5,ti24):=by kernel_rfl
theorem bu26 (ps:List (Nat × W)):Yo K 26 (some ps)=gW (Yd K 26 ps ti26.zero.cells):=by kernel_rfl
theorem ze26:ti26.zero=(.g ([.int .i64 0,.int .i64 0,.int .i64 0,.int .i64 0,.int .u8 0,.snil])):=by rfl
theorem by26:ti26.bytes=64:=by rfl
theorem ty27:K.types.get 27=some ti27:=by kernel_rfl
theorem sz27:ti27.size=1:=by rfl
theorem ag27:ti27.agg=false:=by rfl
theorem de27:ti27.desc=(.slice 9):=by rfl
theorem ze27:ti27.zero=(.c (.snil)):=by rfl
theorem by27:ti27.bytes=24:=by rfl
theorem el27:Jj K 27=some ti9:=by kernel_rfl
theorem ty42:K.types.get 42=some ti42:=by kernel_rfl
theorem sz42:ti42.size=1:=by rfl
theorem ag42:ti42.agg=false:=by rfl
theorem de42:ti42.desc=(.slice 46):=by rfl
theorem ze42:ti42.zero=(.c (.snil)):=by rfl
theorem by42:ti42.bytes=24:=by rfl
theorem el42:Jj K 42=some ti46:=by kernel_rfl
theorem ty46:K.types.get 46=some ti46:=by kernel_rfl
theorem sz46:ti46.size=2:=by rfl
theorem ag46:ti46.agg=true:=by rfl
theorem fo46_0:Zt K 46 0=some (0,ti9):=by kernel_rfl
theorem fo46_1:Zt K 46 1=some (1,ti3):=by kernel_rfl
theorem bu46 (ps:List (Nat × W)):Yo K 46 (some ps)=gW (Yd K 46 ps ti46.zero.cells):=by kernel_rfl
theorem ze46:ti46.zero=(.g ([.str [],.int .i64 0])):=by rfl
theorem by46:ti46.bytes=24:=by rfl
theorem ty395:K.types.get 395=some ti395:=by kernel_rfl
theorem sz395:ti395.size=3:=by rfl
theorem ag395:ti395.agg=true:=by rfl
theorem fo395_0:Zt K 395 0=some (0,ti3):=by kernel_rfl
theorem fo395_1:Zt K 395 1=some (1,ti3):=by kernel_rfl
theorem fo395_2:Zt K 395 2=some (2,ti5):=by kernel_rfl
theorem bu395 (ps:List (Nat × W)):Yo K 395 (some ps)=gW (Yd K 395 ps ti395.zero.cells):=by kernel_rfl
theorem ze395:ti395.zero=(.g ([.int .i64 0,.int .i64 0,.int .u8 0])):=by rfl
theorem by395:ti395.bytes=24:=by rfl
attribute [go_sem] ty24 sz24 ag24 de24 ze24 by24 el24 ty26 sz26 ag26 fo26_0 fo26_1 fo26_2 bu26 ze26 by26 ty27 sz27 ag27 de27 ze27 by27 el27 ty42 sz42 ag42 de42 ze42 by42 el42 ty46 sz46 ag46 fo46_0 fo46_1 bu46 ze46 by46 ty395 sz395 ag395 fo395_0 fo395_1 fo395_2 bu395 ze395 by395
noncomputable def q3 (p:List Nat):Code:=piece p (Uh Tryz.f3)
theorem rs3:Tryz.f3.results.toList=[.tmp 6]:=rfl
attribute [go_sem] rs3
def Ww (c:Nat) (A:List (List UInt8)) (i:Nat):List Sl:=(List.range i).map fun k=>(1+k % c,A.getD k [])
theorem Zyk (c:Nat) (A:List (List UInt8)) (i:Nat):Ww c A (i+1)=Ww c A i++[(1+i % c,A.getD i [])]:=by
 unfold Ww
 rw[List.range_succ,List.map_append]
 rfl
theorem Mv (c:Nat) (A:List (List UInt8)) (i:Nat):(Ww c A i).length=i:=by simp [Ww]
theorem Zlx {c:Nat} {A:List (List UInt8)} {i k:Nat} (h:k<i):(Ww c A i)[k]? = some (1+k % c,A.getD k []):=by
 unfold Ww
 rw[List.getElem?_map,List.getElem?_range h]
 rfl
theorem Zm6 (c:Nat) (A:List (List UInt8)) (i:Nat):∀ x∈Ww c A i,x.1≠0:=fun x hx=>by
 obtain⟨k,_,rfl⟩:=List.mem_map.1 hx
 show 1+k % c≠0
 omega
section
variable (Hh:Hearts K Tryz.prog)
include Hh
theorem Z62 {sl:C} {A:List (List UInt8)} {n i:Nat} {h:Go.Ev.H} (ar:ArS n h sl A) (ia:i<A.length) (i20:i<20):∀ (r k:Nat) (ts:Zx),k+r=i→(∀ k',k'<k→A.getD k' []≠A.getD i [])→Zh ts 1=.w (.c sl)→Zh ts 9=.w (.c (.int .i64 (i:Int)))→Zh ts 10=.w (.c (.int .i64 (k:Int))) →
  Ye 208 none (q3 [1,1,1,1,1,0,1,2,2,1,0,2,1,0,1,2]) [] ts h fun x ds' ts' h'=>ds'=[]∧h'=h∧((x=.ret∧Zh ts' 6=.w (.c (.bool true)))∨(x=.exit 2∧(∀ k',k'<i→A.getD k' []≠A.getD i [])∧∀ s,s≤9→Zh ts' s=Zh ts s)):=by
 obtain⟨⟨lf,ln⟩,q⟩:=ar
 obtain⟨p,ro,pn,rfl,hp⟩:=q.resolve_left (fun w=>by rw[w] at ia; simp at ia)
 intro r
 induction r with
 | zero =>
  intro k ts hk b t1 t9 t10
  obtain rfl:k=i:=by omega
  have dd:decide ((k:Int)<(k:Int))=false:=decide_eq_false (by omega)
  have Jf:=Jb @t9 @t10 @dd
  iterate 6 (first|apply Zk|apply Ux|apply Je|refine Goes.Zi Zj ?_|refine Zq Hh Za Zj ?_)
  refine⟨rfl,rfl,.inr ⟨rfl,b,fun s hs=>?_⟩⟩
  simp (decide:=true) only [Yz hs]
 | succ r ih =>
  intro k ts hk b t1 t9 t10
  have ki:k<i:=by omega
  have dd:decide ((k:Int)<(i:Int))=true:=decide_eq_true (by omega)
  have r1:=Z18 (A:=A) (k:=k) (s:=A.getD k []) (by rw[List.getD_eq_getElem?_getD,List.getElem?_eq_getElem (by omega)]; rfl)
  have r2:=Z18 (A:=A) (k:=i) (s:=A.getD i []) (by rw[List.getD_eq_getElem?_getD,List.getElem?_eq_getElem (by omega)]; rfl)
  obtain⟨R,hR⟩:∃ R,Sr A=R:=⟨_,rfl⟩
  obtain⟨N,hN⟩:∃ N,A.length=N:=⟨_,rfl⟩
  have hp':=hp
  have t1':=t1
  rw[hR] at hp' r1 r2
  rw[hN] at t1' ia
  have kN:k<N:=by omega
  by_cases e:A.getD k []=A.getD i []
  ·have es:Uw (A.getD k []) (A.getD i [])=true:=Dz.2 e
   iterate 14 (first|apply Zk|apply Zw|apply Yt|apply Z0|apply Je|((first|apply Goes.Zi|apply Goes.ops2 fits Hh Za); · simp (maxSteps:=9^6) +decide (disch:=first|omega|(simp only[lens]<;>omega)|decide) only [go_sem,Zn,Zm,simprocAttr,t1',t9,t10,dd,hp',r1,r2,es,Tm]<;>rfl)|(apply Goes.drawn2 fits Hh Za (by kernel_rfl); · simp (maxSteps:=9^6) +decide (disch:=first|omega|(simp only[lens]<;>omega)|decide) only [go_sem,Zn,Zm,simprocAttr,drG,t1',t9,t10,dd,hp',r1,r2,es,Tm]<;>rfl))
   exact⟨rfl,rfl,.inl ⟨rfl,by exact Zc⟩⟩
  ·have es:Uw (A.getD k []) (A.getD i [])=false:=by rw[Zaj]; exact decide_eq_false e
   iterate 13 (first|apply Zk|apply Zw|apply Yt|apply Je|((first|apply Goes.Zi|apply Goes.ops2 fits Hh Za); · simp (maxSteps:=9^6) +decide (disch:=first|omega|(simp only[lens]<;>omega)|decide) only [go_sem,Zn,Zm,simprocAttr,t1',t9,t10,dd,hp',r1,r2,es,Tm]<;>rfl)|(apply Goes.drawn2 fits Hh Za (by kernel_rfl); · simp (maxSteps:=9^6) +decide (disch:=first|omega|(simp only[lens]<;>omega)|decide) only [go_sem,Zn,Zm,simprocAttr,drG,t1',t9,t10,dd,hp',r1,r2,es,Tm]<;>rfl))
   show Ye 208 none (q3 [1,1,1,1,1,0,1,2,2,1,0,2,1,0,1,2]) _ _ _ _
   refine (ih (k+1) _ (by omega) (fun k' hk'=>?_) ?_ ?_ ?_).mono ?_
   ·rcases Nat.lt_or_ge k' k with w|w
    ·exact b k' w
    ·obtain rfl:k'=k:=by omega
     exact e
   ·have Jf:=@t1; exact Zj
   ·have Jf:=@t9; exact Zj
   ·exact Zc
   rintro x ds1 ts1 h1 ⟨rfl,rfl,w⟩
   refine⟨rfl,rfl,w.imp id fun ⟨w1,w2,w3⟩=>⟨w1,w2,fun s hs=>(w3 s hs).trans ?_⟩⟩
   simp (decide:=true) only [Yz hs]
variable {n q a b c e:Nat} {cr:Cr} {md:Int} {cap:Nat} {iw:Nat→Nat × Nat}
omit Hh in
theorem RowD.nx {E:List Sl} {h:Go.Ev.H} (W:RowD n q a b c e cr md cap iw E h):n+23≤q∧q+9≤h.next∧0<n:=by
 obtain⟨V,P,bs,L,m,r,M,_⟩:=W.ex
 exact M.nx
theorem Z47 (f:Ym a b c e=true) (m0:md≠0) (io:Zsr c iw) (c8:cap=min 3 (a * fF b c)) {sl:C} {A:List (List UInt8)} (A20:A.length≤20) {X0:Nat} {xs:List C} (x2:read1 6 [xs] 2=some (.int .i64 (c:Int))) (X0n:X0<n):∀ (r i:Nat) (ts:Zx) (h:Go.Ev.H),i+r=A.length→ArS X0 h sl A→RowD n q a b c e cr md cap iw (Ww c A i) h→(∀ j,j<i→∀ k,k<j→A.getD k []≠A.getD j [])→h.get X0=some (.row 6 [xs] false)→Zh ts 1=.w (.c sl)→Zh ts 3=.w (.c (.ptr X0 0))→Zh ts 7=.w (.c (.ptr (n+13) 0))→Zh ts 9=.w (.c (.int .i64 (i:Int))) →
  Ye 208 none (q3 [1,1,1,1,1,0,1,2]) [] ts h fun x ds' ts' h'=>ds'=[]∧((x=.ret∧Zh ts' 6=.w (.c (.bool true)))∨(x=.exit 0∧RowD n q a b c e cr md cap iw (Ww c A A.length) h'∧(∀ j,j<A.length→∀ k,k<j→A.getD k []≠A.getD j [])∧Kp n q h h'∧∀ s,s≤8→Zh ts' s=Zh ts s)):=by
 obtain⟨g1,g2,g3,g4,g5,g6,g7,g8,g9,g10,g11⟩:=Zv f
 intro r
 induction r with
 | zero =>
  intro i ts h hi ar W ds gX t1 t3 t7 t9
  obtain rfl:i=A.length:=by omega
  obtain⟨lf,ln⟩:=ar.1
  have ln:=ln h
  obtain⟨N,hN⟩:∃ N,A.length=N:=⟨_,rfl⟩
  have t9':=t9
  rw[hN] at ln t9'
  have dd:decide ((N:Int)<(N:Int))=false:=decide_eq_false (by omega)
  have Jf:=U1 @t1 @t9' @lf @ln @dd
  iterate 6 (first|apply Zk|apply Ux|apply Je|refine Goes.Zi Ji ?_|refine Zq Hh Za Ji ?_)
  refine⟨rfl,.inr ⟨rfl,W,ds,Kp.refl ..,fun s hs=>?_⟩⟩
  simp (decide:=true) only [Yz hs]
 | succ r ih =>
  intro i ts h hi ar W ds gX t1 t3 t7 t9
  have ia:i<A.length:=by omega
  obtain⟨lf,ln⟩:=ar.1
  have ln:=ln h
  have ar':=ar
  obtain⟨_,w⟩:=ar
  obtain⟨p,ro,pn,rfl,hp⟩:=w.resolve_left (fun w=>by rw[w] at ia; simp at ia)
  have r1:=Z18 (A:=A) (k:=i) (s:=A.getD i []) (by rw[List.getD_eq_getElem?_getD,List.getElem?_eq_getElem ia]; rfl)
  have lfs:=Zue
  obtain⟨nq,nx,n0⟩:=W.nx
  have dup:=fun ts=>Z62 Hh ar' ia (by omega) i 0 ts (by omega) (fun k' hk=>absurd hk (by omega))
  have ic:i % c<c:=Nat.mod_lt _ (by omega)
  have ac:c≤a * c:=Nat.le_mul_of_pos_left _ (by omega)
  have rm:Np .i64 (i:Int) (c:Int)=some (.int .i64 ((i % c:Nat):Int)):=Em (k:=.i64) (by omega)
  have u1:(1:Int)+((i % c:Nat):Int)=((1+i % c:Nat):Int):=rfl
  obtain⟨s,hs⟩:∃ s,A.getD i []=s:=⟨_,rfl⟩
  have sn:=Zyk c A i
  have add:=fun (nd:∀ k,k<i→A.getD k []≠A.getD i [])=>Z9p Hh (s:=s) (u:=1+i % c) f m0 io c8 W (Zm6 c A i) (fun x hx=>by
   obtain⟨k,hk,rfl⟩:=List.mem_map.1 hx
   rw[←hs]
   exact nd k (List.mem_range.1 hk)) (by rw[Mv]; omega) (by omega) (by omega) (by omega)
  rw[hs] at r1 sn
  rw[←sn] at add
  obtain⟨R,hR⟩:∃ R,Sr A=R:=⟨_,rfl⟩
  obtain⟨N,hN⟩:∃ N,A.length=N:=⟨_,rfl⟩
  have hp':=hp
  have t1':=t1
  have ia':=ia
  rw[hR] at hp' r1
  rw[hN] at t1' ia' ln lf
  have dd:decide ((i:Int)<(N:Int))=true:=decide_eq_true (by omega)
  by_cases l5:s.length > 500
  ·have d5:decide ((s.length:Int) > 500)=true:=decide_eq_true (by omega)
   have Jf:=Yy @t1' (Yu @t9 @lf @ln @dd @hp' @r1 @lfs @d5 @ia')
   iterate 15 (first|apply Zk|apply Zw|apply Yt|apply Z0|apply Je|refine Goes.Zi Ur ?_|refine Zq Hh Za Ur ?_)
   exact⟨rfl,.inl ⟨rfl,by exact Zc⟩⟩
  ·have d5:decide ((s.length:Int) > 500)=false:=decide_eq_false (by omega)
   have Jf:=Yy @t1' (Yu @t9 @lf @ln @dd @hp' @r1 @lfs @d5 @ia')
   iterate 17 (first|apply Zk|apply Zw|apply Yt|apply Je|refine Goes.Zi Ur ?_|refine Zq Hh Za Ur ?_)
   refine (dup _ ?_ ?_ ?_).mono ?_
   ·have Jf:=@t1; exact Zj
   ·have Jf:=@t9; exact Zj
   ·exact Zc
   rintro x1 ds1 ts1 h1 ⟨rfl,rfl,⟨rfl,t6⟩|⟨rfl,nd,tk⟩⟩
   ·exact⟨rfl,.inl ⟨rfl,t6⟩⟩
   obtain⟨hB,rr,c18,kB,cases3⟩:=add nd
   have nB:=kB.1
   have u1':Zh ts1 1=.w (.c (.slice p 0 N 1)):=(tk 1 (by decide)).trans (by have Jf:=@t1'; exact Zj)
   have u3:Zh ts1 3=.w (.c (.ptr X0 0)):=(tk 3 (by decide)).trans (by have Jf:=@t3; exact Zj)
   have u7:Zh ts1 7=.w (.c (.ptr (n+13) 0)):=(tk 7 (by decide)).trans (by have Jf:=@t7; exact Zj)
   have u9:Zh ts1 9=.w (.c (.int .i64 (i:Int))):=(tk 9 (by decide)).trans (by have Jf:=@t9; exact Zj)
   have tk8:∀ s,s≤8→Zh ts1 s=Zh ts s:=fun s hs=>(tk s (Nat.le_trans hs (by decide))).trans (by simp (decide:=true) only [Yz hs])
   have BX:=(kB.2 X0 (by omega) ⟨⟨by omega,by omega,by omega,by omega,by omega⟩,by omega⟩).trans gX
   rcases cases3 with rfl|rfl|⟨rfl,WB⟩
   ·
    apply Zk
    have Jf:=Jb @u1' @u3 (Yu @u7 @u9 @gX @x2 @rm @u1 @hp' @r1 @ia')
    iterate 8 (first|apply Zk|apply Z0|refine Goes.Zi Zj ?_|refine Zq Hh (Zp Za c18) Zj ?_|refine Ed Hh (Zp Za c18) Rq ?_)
    exact⟨rfl,.inl ⟨rfl,by exact Zc⟩⟩
   ·
    apply Zk
    have Jf:=Jb @u1' @u3 (Yu @u7 @u9 @gX @x2 @rm @u1 @hp' @r1 @ia')
    iterate 8 (first|apply Zk|apply Z0|refine Goes.Zi Zj ?_|refine Zq Hh (Zp Za c18) Zj ?_|refine Ed Hh (Zp Za c18) Rq ?_)
    exact⟨rfl,.inl ⟨rfl,by exact Zc⟩⟩
   ·
    apply Zk
    have Jf:=Jb @u1' @u3 (Yu @u7 @u9 @gX @x2 @rm @u1 @hp' @r1 @ia')
    iterate 11 (first|apply Zk|apply Zw|refine Goes.Zi Zj ?_|refine Zq Hh (Zp Za c18) Zj ?_|refine Ed Hh (Zp Za c18) Rq ?_)
    show Ye 208 none (q3 [1,1,1,1,1,0,1,2]) _ _ _ _
    refine (ih (i+1) _ hB (by omega) (ar'.keep fun p' hp'=>kB.2 p' (by omega) ⟨⟨by omega,by omega,by omega,by omega,by omega⟩,by omega⟩) WB (fun j hj k hk=>?_) BX ?_ ?_ ?_ ?_).mono ?_
    ·rcases Nat.lt_or_ge j i with w|w
     ·exact ds j w k hk
     ·obtain rfl:j=i:=by omega
      exact nd k hk
    ·have Jf:=Yy @u1' @hN; exact Zj
    ·have Jf:=@u3; exact Zj
    ·have Jf:=@u7; exact Zj
    ·exact Zc
    rintro x1 ds1 ts2 h2 ⟨rfl,w⟩
    refine⟨rfl,w.imp id fun ⟨w1,w2,w3,w4,w5⟩=>⟨w1,w2,w3,kB.then w4,fun s hs=>(w5 s hs).trans ?_⟩⟩
    refine Eq.trans ?_ (tk8 s hs)
    simp (decide:=true) only [Yz hs]
end
attribute [go_sem] ty42 sz42 ag42 de42 ze42 by42 el42 ty46 sz46 ag46 fo46_0 fo46_1 bu46 ze46 by46
noncomputable def q11 (p:List Nat):Code:=piece p (Uh Tryz.f11)
theorem Zs1:q11 [1,1,1,0,1,2]=.rangeFunc (.tmp 14) #[15,16] (q11 [1,1,1,0,1,2,5]) (q11 [1,1,1,0,1,2,6]):=by kernel_rfl
theorem Zqj:q11 [1,1,1,0,1,2,5]=.region 4 (Zy1 (q11 [1,1,1,0,1,2,5])) false:=by kernel_rfl
theorem Zp9:q11 [1,1,1,0,1,2,6]=.block 1 (q11 [1,1,1,0,1,2,6,2]):=by kernel_rfl
theorem rs11:Tryz.f11.results.toList=[.tmp 4,.tmp 5]:=rfl
attribute [go_sem] rs11
def Zau (x:Sl):List C:=[.str x.2,.int .i64 (x.1:Int)]
def SlE (b:Nat) (h:Go.Ev.H) (c:C) (l:List Sl):Prop:=(l=[]∧c=.snil)∨∃ p,0<l.length∧c=.slice p 0 l.length 2∧h.get p=some (.row 2 (l.map Zau) false)∧b≤p∧p<h.next
theorem Ybx:ti46.size=2:=rfl
theorem Ybp:ti46.bytes=24:=rfl
theorem Ybb (h:Go.Ev.H) (x:Sl):Yj h 1 (some ti46) (some [(0,.g (Zau x))])=some (.w (.c (.slice h.next 0 1 2)),h.new (.row 2 [Zau x] false)):=rfl
theorem Yb4 (b:Nat) (h:Go.Ev.H) (c:C) (l:List Sl) (s:SlE b h c l):Jg K 42 c=true:=by
 rcases s with ⟨_,rfl⟩|⟨p,_,rfl,_⟩
 ·unfold Jg; rw[show K.types.get 42=some ti42 by kernel_rfl]; rfl
 ·unfold Jg; rw[show K.types.get 42=some ti42 by kernel_rfl]; rfl
theorem Yal (n off len:Nat):Jg K 42 (.slice n off len 2)=true:=by unfold Jg; rw[show K.types.get 42=some ti42 by kernel_rfl]; rfl
theorem Yau {b:Nat} {h:Go.Ev.H} {c:C} {l:List Sl} (s:SlE b h c l) (bh:b≤h.next) (hl:l.length≤4000) (x:Sl):∃ c' h',Ol (h.new (.row 2 [Zau x] false)) (some ti46) c (.slice h.next 0 1 2)=some (.w (.c c'),h')∧SlE b h' c' (l++[x])∧h.next≤h'.next∧∀ p,p<h.next→(p<b∨∀ y,h.get p≠some (.row 2 y false))→h'.get p=h.get p:=by
 rcases s with ⟨rfl,rfl⟩|⟨p,p1,rfl,pp,p3,p4⟩
 ·refine⟨_,_,append_nil (M:=[Zau x]) Ybx (by rw[H.Z7,if_pos rfl]) (by simp) (by rw[Ybp]; show 1 * 24≤_; omega) (by show 1≤_; omega),.inr ⟨h.next+1,by simp,rfl,?_,by omega,?_⟩,?_,fun p hp _=>?_⟩
  ·rw[Jv (by simp only[H.Zb]<;>omega)]; rfl
  ·simp only[H.Zb]; omega
  ·simp only[H.Zb]; omega
  ·rw[Z8 (by simp only[H.Zb]; omega),Z8 (by omega)]
 ·have ml:(l.map Zau).length=l.length:=by simp
  have ap:=Zam (h:=h.new (.row 2 [Zau x] false)) (te:=ti46) (n:=p) (n':=h.next) (L:=l.map Zau) (M:=[Zau x]) (ro:=false) Ybx (by rw[H.Z7,if_neg (by omega)]; exact pp) (by rw[H.Z7,if_pos rfl]) (by simp) (by rw[Ybp,ml]; show (l.length+1) * 24≤_; omega) (by rw[ml]; show l.length+1≤_; omega)
  rw[ml] at ap
  refine⟨_,_,ap,.inr ⟨h.next+1,by simp,by rw[List.length_append]; rfl,?_,by omega,?_⟩,?_,fun q hq w=>?_⟩
  ·rw[Jv (by simp only[H.Zb,H.Yv]<;>omega),List.map_append]; rfl
  ·simp only[H.Zb,H.Yv]; omega
  ·simp only[H.Zb,H.Yv]; omega
  ·have ne:q≠p:=fun e=>by
    rcases w with w|w
    ·omega
    ·rw[e] at w; exact w _ pp
   rw[Z8 (by simp only[H.Zb,H.Yv]; omega),Xw ne,Z8 (by omega)]
def Zav (A:List (Nat × Sl)):List Sl:=(A.map Prod.snd).filter fun x=>!Nat.beq x.1 0
theorem Zyo (A:List (Nat × Sl)) (i:Nat) (x:Sl):Zav (A++[(i,x)])=if x.1=0 then Zav A else Zav A++[x]:=by
 unfold Zav
 rw[List.map_append,List.filter_append]
 by_cases h:x.1=0
 ·rw[if_pos h]
  simp [h]
 ·rw[if_neg h]
  have:Nat.beq x.1 0=false:=Nn h
  simp [this]
theorem Z2g (A:List (Nat × Sl)):(Zav A).length≤A.length:=by
 unfold Zav
 have:=List.length_filter_le (fun x:Sl=>!Nat.beq x.1 0) (A.map Prod.snd)
 rw[List.length_map] at this
 exact this
section
variable (Hh:Hearts K Tryz.prog)
include Hh
variable {n q a b c e:Nat} {cr:Cr} {md:Int} {S T:List Nat} {V:Nat→List Nat} {h:Go.Ev.H} {y:List C} {P:Nat→Nat} {bs:List Nat} {L:List (List Sl)} {R l:Nat} {s:List UInt8}
def LiI (b1:Nat) (A:List (Nat × Sl)) (t:Nat) (h:Go.Ev.H):Prop:=b1+4≤h.next∧∃ c,h.get b1=some (.row 1 [[c]] false)∧SlE (b1+1) h c (Zav (A.take t))
theorem liA (lq:Nat) (ts:Zx) (i:Nat) (u:List C) (ul:u.length=2) (h:Go.Ev.H):Ye 39 (some lq) (q11 [1,1,1,0,1,2,5]) [] ((ts.set 15 (.w (.c (.int .i64 (i:Int))))).set 16 (.w (.g u))) h fun x ds' ts' h'=>x=.normal∧ds'=[]∧((∀ s,s≤8→Zh ts' s=Zh ts s)∧Zh ts' 9=.w (.c (.ptr h.next 0)))∧h'.next=h.next+1∧(∀ m,m<h.next→h'.get m=h.get m)∧h'.get h.next=some (.row 2 [u] false):=by
 have wr2:Z4 2 [[.int .u32 0,.str []]] 0 u=some [u]:=by
  match u,ul with
  | [u0,u1],_=>rfl
 have Jf:=Yy @ul @wr2
 refine Zq Hh Za Z5 ?_
 refine⟨rfl,rfl,⟨fun s hs=>?_,?_⟩,?_,fun m hm=>?_,?_⟩
 ·simp (decide:=true) only [Yz hs]
 ·exact Zc
 ·simp only[H.Zd,H.Zb]
 ·exact Yc
 ·first|exact Zz .. | (simp (maxSteps:=9^6) +decide (disch:=first|omega|(simp only[lens]<;>omega)|decide) only [go_sem,Zn,Zm,simprocAttr]; done)|(exact Zc)
theorem liB (M:HE n q a b c e cr md S T V h) {b1 t i hb:Nat} {x:Sl} {A:List (Nat × Sl)} {ts:Zx} (bq:q+9≤b1) (at_:A[t]? = some (i,x)) (xb:x.1<4294967296) (Al:A.length≤4000) (t7:Zh ts 7=.w (.c (.ptr b1 0))) (t9:Zh ts 9=.w (.c (.ptr hb 0))) (gb:h.get hb=some (.row 2 [slC x] false)) (hbl:hb<h.next) (J:LiI b1 A t h) (hl:∃ lo,h.get (b1+3)=some lo∧∀ x,lo≠.row 2 x false) :
  Ye 39 (some (b1+3)) (q11 [1,1,1,0,1,2,6]) [] ts h fun x' _ _ h'=>x'=.normal∧h'.get (b1+3)=h.get (b1+3)∧LiI b1 A (t+1) h'∧HE n q a b c e cr md S T V h'∧Kpr (b1+3) b1 [b1] h h':=by
 obtain⟨nx,cs,c1,sl⟩:=J
 obtain⟨lo,hl1,hl2⟩:=hl
 have sn:Zav (A.take (t+1))=if x.1=0 then Zav (A.take t) else Zav (A.take t)++[x]:=by rw[Zew at_]; exact Zyo _ _ _
 obtain⟨xi,xn⟩:=x
 unfold slC at gb
 simp only at xb gb sn
 by_cases x0:xi=0
 ·have e1:((xi:Int) != 0)=false:=by subst x0; rfl
  rw[if_pos x0] at sn
  have Jf:=M8 @t7 @t9 @gb @e1 @rd20 @rd21 @Ff
  iterate 5 (first|apply Zk|apply Zw|apply Yt|refine Goes.Zi Zj ?_|refine Zq Hh Za Zj ?_)
  exact⟨rfl,rfl,⟨nx,cs,c1,by rw[sn]; exact sl⟩,M,Nat.le_refl _,fun _ _ _ _ _=>rfl⟩
 ·have e1:((xi:Int) != 0)=true:=Mr (by omega)
  rw[if_neg x0] at sn
  have ll:(Zav (A.take t)).length≤4000:=by
   have:=Z2g (A.take t)
   rw[List.length_take] at this
   omega
  obtain⟨c',hD,ap,sD,nD,kD⟩:=Yau sl (by omega) ll (xi,xn)
  rw[←sn] at sD
  unfold Zau at ap
  simp only at ap
  have sf:=Yb4 _ _ _ _ sl
  have sf1:=Yal
  have bsE:∀ h,Yj h 1 (some ti46) (some [(0,.g [.str xn,.int .i64 (xi:Int)])])=some (.w (.c (.slice h.next 0 1 2)),h.new (.row 2 [[.str xn,.int .i64 (xi:Int)]] false)):=fun h=>Ybb h (xi,xn)
  have D1:=(kD b1 (by omega) (.inl (by omega))).trans c1
  have Jf:=U1 @t7 @t9 @gb @e1 (Yu @c1 @rd20 @rd21 @Ff @sf @sf1 @bsE @ap @D1)
  iterate 5 (first|apply Zk|apply Yt|refine Goes.Zi Ji ?_|refine Zq Hh Za Ji ?_)
  refine⟨rfl,?_,⟨?_,c',?_,?_⟩,M.keep ?_ fun m hm=>?_,?_,fun m hm ml mA w=>?_⟩
  ·rw[Ze (by omega)]; exact kD _ (by omega) (.inr fun y w=>by rw[hl1] at w; exact hl2 _ (Option.some.inj w))
  ·rw[H.Zd]; omega
  ·exact Zz ..
  ·rcases sD with w|⟨p,a1,a2,a3,a4,a5⟩
   ·exact .inl w
   ·exact .inr ⟨p,a1,a2,by rw[Ze (by omega)]; exact a3,a4,by rw[H.Zd]; exact a5⟩
  ·rw[H.Zd]; omega
  ·rw[Ze (by omega)]; exact kD m (by omega) (.inl (by omega))
  ·rw[H.Zd]; omega
  ·rw[Ze (fun w=>mA (by rw[w]; simp))]; exact kD m hm (w.imp (fun w=>by omega) id)
theorem Zqi (f:Ym a b c e=true) (m0:md≠0) (M:HE n q a b c e cr md S T V h) {z:Int} (O:DirO a b c e V z y P bs L) :
  ∃ cs h',Zg 11 [.c (.ptr (n+13) 0),.c (.int .i64 z)] h (.tup [.c cs,.c (.int .i64 0)]) h'∧SlE h.next h' cs (Zav (Jn L))∧HE n q a b c e cr md S T V h'∧Kr n q h h':=by
 obtain⟨nq,nx,n0⟩:=M.nx
 obtain⟨gz,ky,ip,sz,db⟩:=O
 have yl:=ip.xl
 have Al:(Jn L).length=8 * bs.length:=by unfold Jn; rw[R3 db.l8,db.ll]
 have lb:=db.lb
 obtain⟨hB,c1,BR,nB,MB,kB⟩:=Xe Hh f m0 M gz ky yl
 obtain⟨R,hR⟩:∃ R,h.next=R:=⟨_,rfl⟩
 rw[hR] at c1 BR nB
 have cA:=fun h=>Zar Hh R h
 obtain⟨b1,hb1⟩:∃ b1,hB.next=b1:=⟨_,rfl⟩
 have U:RnP n q R (b1+1) (b1+3) b1 [b1]:=⟨nq,⟨by omega,by omega⟩,⟨by omega,by omega,by omega⟩,fun m hm=>by
  simp only[List.mem_cons,List.not_mem_nil,or_false] at hm
  omega,by omega⟩
 have sok:=db.sb
 obtain⟨v,h',cc,cs,rfl,qq⟩:∃ v h',Zg 11 [.c (.ptr (n+13) 0),.c (.int .i64 z)] h v h'∧∃ cs,v=.tup [.c cs,.c (.int .i64 0)]∧SlE h.next h' cs (Zav (Jn L))∧HE n q a b c e cr md S T V h'∧Kr n q h h':=by
  refine Yg Hh Tryz.f11 ?_
  have Jf:=@Ff
  iterate 3 (first|apply Zk|refine Zq Hh Za Ji ?_)
  iterate 5 (first|apply Zk|refine Zq Hh (Zp Za c1) Ji ?_)
  iterate 2 (first|apply Yt|refine Zq Hh (Yp Za cA) Ji ?_)
  refine Uc fun hC eC=>?_
  have nC:hC.next=b1+2:=by rw[eC]; simp only[H.Zd,H.Zb,hb1]
  have kC:∀ m,m<hB.next→hC.get m=hB.get m:=fun m hm=>by rw[eC]; exact Yc
  have a1:hC.get b1=some (.row 1 [[.snil]] false):=by rw[eC,←hb1]; exact Zc
  have a7:hC.get (b1+1)=some (.row 1 [[.ptr R 0]] false):=by rw[eC,←hb1]; exact Zc
  clear eC
  have ne:(q11 [1,1,1,0,1,2,6])≠(q11 [1,1,1,0,1,2,5]):=fun e1=>by
   rw[Zp9,Zqj] at e1
   cases e1
  show Ye 39 none (q11 [1,1,1,0,1,2]) _ _ _ _
  rw[Zs1]
  refine Zxq fun ts hts=>?_
  have t7:Zh ts 7=.w (.c (.ptr b1 0)):=by rw[hts,←hb1]; exact Zc
  have eg:Z6 K ts (.tmp 14)=some (.fn 85 [] [some (b1+1,0)]):=by
   rw[hts,←hb1]
   exact Zc
  refine (Zmc Hh (I:=LiI b1 (Jn L)) (JT:=fun ts' i hb=>Zh ts' 7=.w (.c (.ptr b1 0))∧Zh ts' 9=.w (.c (.ptr hb 0))) ne (by omega) (by omega) f m0 nC U ip db sz ?_ (by omega) ⟨by omega,by omega,fun m hm=>by simp only[List.mem_cons,List.not_mem_nil,or_false] at hm; omega⟩ ?_ ?_ ((kC R (by omega)).trans BR) a7 eg (MB.keep (by omega) fun m hm=>kC m (by omega)) ?_).mono ?_
  ·exact fun t h1 h2 ⟨n1,c,g,sl⟩ k=>⟨Nat.le_trans n1 k.1,c,(k.2 b1 (by omega) (.inl ⟨by omega,by omega,by omega⟩)).trans g,by
    rcases sl with w|⟨p,a1,a2,a3,a4,a5⟩
    ·exact .inl w
    ·exact .inr ⟨p,a1,a2,(k.2 p a5 (.inr ⟨_,a3⟩)).trans a3,a4,Nat.lt_of_lt_of_le a5 k.1⟩⟩
  ·exact fun i x h1=>(liA Hh (b1+2+1) ts i (slC x) rfl h1).mono fun x' ds' ts' h' ⟨e1,e2,⟨t1,t9⟩,n1,k1,r1⟩=>⟨e1,e2,⟨(t1 7 (by decide)).trans t7,t9⟩,n1,k1,r1⟩
  ·exact fun t i x ts' h1 hb at_ ib ⟨u7,u9⟩ gb p1 p2 J M1 rd1 hl=>liB Hh M1 (by omega) at_ (sok _ (List.mem_of_getElem? at_)) (by omega) u7 u9 gb p2 J hl
  ·exact fun h2 n2 k2=>⟨by omega,.snil,(k2 b1 (by omega)).trans a1,.inl ⟨rfl,rfl⟩⟩
  rintro x1 ds1 ts1 h1 ⟨rfl,rfl,rfl,gd,J,M1,rd1,n1,k1⟩
  subst hts
  rw[←Al] at J
  obtain⟨nx',cs,c1',sl⟩:=J
  rw[List.take_of_length_le (Nat.le_refl _)] at sl
  obtain⟨rs,R1,R2⟩:=rd1
  obtain⟨g0,g1,g2,g3,g4,g5⟩:=Ej (n:=n) (s:=rs) (e:=0) yl
  obtain⟨r0,hr0⟩:∃ r,rdC n y rs 0=r:=⟨_,rfl⟩
  rw[hr0] at R1 g3
  have Jf:=Sy @Ff @gd @c1' @R1 @g3 @hb1
  iterate 8 (first|apply Zk|apply Zw|apply Z0|refine Goes.Zi Ji ?_|refine Zq Hh Za Ji ?_)
  refine⟨_,_,Zj,cs,rfl,?_,M1.keep ?_ fun m hm=>?_,?_,fun m hm m6=>?_⟩
  ·rcases sl with w|⟨p,a1',a2',a3',a4',a5'⟩
   ·exact .inl w
   ·exact .inr ⟨p,a1',a2',by rw[Xw (fun w=>by rw[w,gd] at a3'; cases a3')]; exact a3',by omega,by simp only[H.Zd,H.Yv]<;>omega⟩
  ·simp only[H.Zd,H.Yv]<;>omega
  ·exact Yc
  ·simp only[H.Zd,H.Yv]<;>omega
  ·refine Eq.trans ?_ ((k1 m (by omega) (by omega) m6 (fun w=>by simp only[List.mem_cons,List.not_mem_nil,or_false] at w; omega) (.inl (by omega))).trans ((kC m (by omega)).trans (kB.2 m (by omega) m6))); exact Yc
 exact⟨cs,h',cc,qq⟩
end
theorem Zk0 (L:List (List Sl)):Zav (Jn L)=(Nk L).filter fun x=>!Nat.beq x.1 0:=rfl
theorem Z8l (s s':List UInt8) (u u':Int):eqT K 20 46 (.g [.str s,.int .i64 u]) (.g [.str s',.int .i64 u'])=(match some (Uw s s') with
  | some true=>(match some (u == u') with
   | some true=>some true
   | r=>r)
  | r=>r):=by kernel_rfl
theorem Z7s (s:List UInt8) (u:Int):eqT K 20 46 (.g [.str s,.int .i64 u]) (.g [.str s,.int .i64 u])=some true:=by
 rw[Z8l,Dz.2 rfl,Za7 rfl]
theorem Ybg (p o l:Nat):Y7 K 42 (.c (.slice p o l 2))=true:=by kernel_rfl
theorem Z9q:Y7 K 42 (.c .snil)=true:=by kernel_rfl
theorem Z81 {b:Nat} {h:Go.Ev.H} {c:C} {l:List Sl} (s:SlE b h c l):Y7 K 42 (.c c)=true∧∀ h,J3 K h 42 (.c c)=some (.int .i64 (l.length:Nat)):=by
 rcases s with ⟨rfl,rfl⟩|⟨p,_,rfl,_⟩
 ·exact⟨Z9q,fun _=>rfl⟩
 ·exact⟨Ybg ..,fun _=>rfl⟩
theorem Z3v {l:List Sl} {k:Nat} {x:Sl} (h:l[k]? = some x):Zn 2 (l.map Zau) (k * 2) 2=some [.str x.2,.int .i64 (x.1:Int)]:=by
 have e:(l.map Zau)[k]? = some (Zau x):=by rw[List.getElem?_map,h]; rfl
 exact Zi2 (by omega) e rfl
section
variable (Hh:Hearts K Tryz.prog)
include Hh
variable {c:Nat}
theorem Z5z {sl cs:C} {A:List (List UInt8)} (A20:A.length≤20) {X0 B:Nat} {xs:List C} {h:Go.Ev.H} (c0:0<c) (c64:c≤64) (x2:read1 6 [xs] 2=some (.int .i64 (c:Int))) (ar:ArS X0 h sl A) (se:SlE B h cs (Ww c A A.length)) (gX:h.get X0=some (.row 6 [xs] false)):∀ (r i:Nat) (ts:Zx),i+r=A.length→Zh ts 1=.w (.c sl)→Zh ts 3=.w (.c (.ptr X0 0))→Zh ts 14=.w (.c cs)→Zh ts 16=.w (.c (.int .i64 (i:Int))) →
  Ye 208 none (q3 [1,1,1,1,1,1,1,1,1,0,1,2]) [] ts h fun x ds' ts' h'=>ds'=[]∧h'=h∧x=.exit 4∧∀ s,s≤15→Zh ts' s=Zh ts s:=by
 intro r
 induction r with
 | zero =>
  intro i ts hi t1 t3 t14 t16
  obtain rfl:i=A.length:=by omega
  obtain⟨lf,ln⟩:=ar.1
  have ln:=ln h
  obtain⟨N,hN⟩:∃ N,A.length=N:=⟨_,rfl⟩
  have t16':=t16
  rw[hN] at ln t16'
  have dd:decide ((N:Int)<(N:Int))=false:=decide_eq_false (by omega)
  have Jf:=U1 @t1 @t16' @lf @ln @dd
  iterate 6 (first|apply Zk|apply Ux|apply Je|refine Goes.Zi Ji ?_|refine Zq Hh Za Ji ?_)
  refine⟨rfl,rfl,rfl,fun s hs=>?_⟩
  simp (decide:=true) only [Yz hs]
 | succ r ih =>
  intro i ts hi t1 t3 t14 t16
  have ia:i<A.length:=by omega
  obtain⟨lf,ln⟩:=ar.1
  have ln:=ln h
  obtain⟨_,w⟩:=ar
  obtain⟨p,ro,pn,rfl,hp⟩:=w.resolve_left (fun w=>by rw[w] at ia; simp at ia)
  obtain⟨pe,e0,rfl,he,e1,e2⟩:=se.resolve_left (fun w=>by have:=Mv c A A.length; rw[w.1] at this; simp at this; omega)
  have r1:=Z18 (A:=A) (k:=i) (s:=A.getD i []) (by rw[List.getD_eq_getElem?_getD,List.getElem?_eq_getElem ia]; rfl)
  have r2:=Z3v (Zlx (c:=c) (A:=A) ia)
  have rm:Np .i64 (i:Int) (c:Int)=some (.int .i64 ((i % c:Nat):Int)):=Em (k:=.i64) (by omega)
  have u1:(1:Int)+((i % c:Nat):Int)=((1+i % c:Nat):Int):=rfl
  have ic:i % c<c:=Nat.mod_lt _ (by omega)
  have ee:=Z7s (A.getD i []) ((1+i % c:Nat):Int)
  obtain⟨s,hs⟩:∃ s,A.getD i []=s:=⟨_,rfl⟩
  simp only[hs] at r1 r2 ee
  obtain⟨u,hu⟩:∃ u,1+i % c=u:=⟨_,rfl⟩
  simp only[hu] at r2 ee u1
  obtain⟨Re,hRe⟩:∃ R,(Ww c A A.length).map Zau=R:=⟨_,rfl⟩
  obtain⟨R,hR⟩:∃ R,Sr A=R:=⟨_,rfl⟩
  obtain⟨Ne,hNe⟩:∃ N,(Ww c A A.length).length=N:=⟨_,rfl⟩
  have ie:i<Ne:=by rw[←hNe,Mv]; exact ia
  obtain⟨N,hN⟩:∃ N,A.length=N:=⟨_,rfl⟩
  have hp':=hp
  have he':=he
  have t1':=t1
  have t14':=t14
  have ia':=ia
  rw[hR] at hp' r1
  rw[hRe] at he' r2
  rw[hNe] at t14'
  rw[hN] at t1' ia' ln lf
  have dd:decide ((i:Int)<(N:Int))=true:=decide_eq_true (by omega)
  have Jf:=Yy @t1' (Yu @t3 @t14' @t16 @lf @ln @dd @hp' @he' (Yu @r1 @r2 @gX @x2 @rm @u1 @ee @ia' @ie))
  iterate 13 (first|apply Zk|apply Zw|apply Yt|apply Je|refine Goes.Zi O8 ?_|refine Zq Hh Za O8 ?_|refine Ed Hh Za Zcw ?_)
  show Ye 208 none (q3 [1,1,1,1,1,1,1,1,1,0,1,2]) _ _ _ _
  refine (ih (i+1) _ (by omega) ?_ ?_ ?_ ?_).mono ?_
  ·have Jf:=@t1; exact Zj
  ·have Jf:=@t3; exact Zj
  ·have Jf:=@t14; exact Zj
  ·exact Zc
  rintro x1 ds1 ts2 h2 ⟨rfl,rfl,rfl,tk⟩
  refine⟨rfl,rfl,rfl,fun s hs=>(tk s hs).trans ?_⟩
  simp (decide:=true) only [Yz hs]
theorem Zzc {cs cs2:C} {E:List Sl} (E20:E.length≤20) {B B2 g:Nat} {h:Go.Ev.H} (gl:g<E.length) (se:SlE B h cs E) (se2:SlE B2 h cs2 (E.eraseIdx g)):∀ (r k:Nat) (ts:Zx),k+r=E.length - 1→Zh ts 2=.w (.c (.int .i64 (g:Int)))→Zh ts 14=.w (.c cs)→Zh ts 18=.w (.c cs2)→Zh ts 20=.w (.c (.int .i64 (k:Int))) →
  Ye 208 none (q3 [1,1,1,1,1,1,1,1,1,1,1,1,1,1,0,1,2]) [] ts h fun x ds' ts' h'=>ds'=[]∧h'=h∧x=.exit 6∧∀ s,s≤3→Zh ts' s=Zh ts s:=by
 have l1:(E.eraseIdx g).length=E.length - 1:=by rw[List.length_eraseIdx,if_pos gl]
 obtain⟨lf,ln⟩:=Z81 se2
 have ln:=ln h
 rw[l1] at ln
 intro r
 induction r with
 | zero =>
  intro k ts hk t2 t14 t18 t20
  obtain rfl:k=E.length - 1:=by omega
  obtain⟨N,hN⟩:∃ N,E.length - 1=N:=⟨_,rfl⟩
  have t20':=t20
  rw[hN] at ln t20'
  have dd:decide ((N:Int)<(N:Int))=false:=decide_eq_false (by omega)
  have Jf:=U1 @t18 @t20' @lf @ln @dd
  iterate 6 (first|apply Zk|apply Ux|apply Je|refine Goes.Zi Ji ?_|refine Zq Hh Za Ji ?_)
  refine⟨rfl,rfl,rfl,fun s hs=>?_⟩
  simp (decide:=true) only [Yz hs]
 | succ r ih =>
  intro k ts hk t2 t14 t18 t20
  have ka:k<E.length - 1:=by omega
  obtain⟨pe,e0,rfl,he,e1,e2⟩:=se.resolve_left (fun w=>by rw[w.1] at gl; simp at gl)
  obtain⟨p2,f0,rfl,hf,f1,f2⟩:=se2.resolve_left (fun w=>by rw[w.1] at l1; simp at l1; omega)
  have lf':Y7 K 42 (.c (.slice p2 0 (E.eraseIdx g).length 2))=true:=lf
  obtain⟨n,hn,nl⟩:∃ n,(if k<g then k else k+1)=n∧n<E.length:=⟨_,rfl,by split<;>omega⟩
  obtain⟨x,hx⟩:∃ x,E[n]? = some x:=⟨_,List.getElem?_eq_getElem nl⟩
  have hx2:(E.eraseIdx g)[k]? = some x:=by
   rw[List.getElem?_eraseIdx]
   by_cases w:k<g
   ·rw[if_pos w] at hn ⊢
    subst hn
    exact hx
   ·rw[if_neg w] at hn ⊢
    subst hn
    exact hx
  have r1:=Z3v hx
  have r2:=Z3v hx2
  have ee:=Z7s x.2 (x.1:Int)
  obtain⟨xs,hxs⟩:∃ s,x.2=s:=⟨_,rfl⟩
  obtain⟨xu,hxu⟩:∃ s,x.1=s:=⟨_,rfl⟩
  rw[hxs,hxu] at r1 r2 ee
  obtain⟨Re,hRe⟩:∃ R,E.map Zau=R:=⟨_,rfl⟩
  obtain⟨Rf,hRf⟩:∃ R,(E.eraseIdx g).map Zau=R:=⟨_,rfl⟩
  obtain⟨Ne,hNe⟩:∃ N,E.length=N:=⟨_,rfl⟩
  obtain⟨Nf,hNf⟩:∃ N,(E.eraseIdx g).length=N:=⟨_,rfl⟩
  have t14':=t14
  have t18':=t18
  have nl':=nl
  rw[hRe] at he r1
  rw[hRf] at hf r2
  rw[hNe] at t14' nl'
  rw[hNf] at t18' lf'
  have kf:k<Nf:=by omega
  have ln':J3 K h 42 (.c (.slice p2 0 Nf 2))=some (.int .i64 (Nf:Int)):=rfl
  have dd:decide ((k:Int)<(Nf:Int))=true:=decide_eq_true (by omega)
  by_cases w:k<g
  ·rw[if_pos w] at hn
   subst hn
   have dg:decide ((k:Int) ≥ (g:Int))=false:=decide_eq_false (by omega)
   have Jf:=M8 @t2 @t14' @t18' @t20 @lf' @ln' (Yu @dd @dg @he @hf @r1 @r2 @ee @nl' @kf)
   iterate 20 (first|apply Zk|apply Zw|apply Yt|apply Je|refine Goes.Zi O8 ?_|refine Zq Hh Za O8 ?_|refine Ed Hh Za Zcw ?_)
   show Ye 208 none (q3 [1,1,1,1,1,1,1,1,1,1,1,1,1,1,0,1,2]) _ _ _ _
   refine (ih (k+1) _ (by omega) ?_ ?_ ?_ ?_).mono ?_
   ·have Jf:=@t2; exact Zj
   ·have Jf:=@t14; exact Zj
   ·have Jf:=@t18; exact Zj
   ·exact Zc
   rintro x1 ds1 ts2 h2 ⟨rfl,rfl,rfl,tk⟩
   refine⟨rfl,rfl,rfl,fun s hs=>(tk s hs).trans ?_⟩
   simp (decide:=true) only [Yz hs]
  ·rw[if_neg w] at hn
   subst hn
   have dg:decide ((k:Int) ≥ (g:Int))=true:=decide_eq_true (by omega)
   have k1:(k:Int)+1=((k+1:Nat):Int):=rfl
   have Jf:=Vu @t2 @t14' @t18' @t20 @lf' @ln' @dd (Yu @dg @he @hf @r1 @r2 @ee @nl' @kf @k1)
   iterate 20 (first|apply Zk|apply Zw|apply Yt|apply Je|refine Goes.Zi O8 ?_|refine Zq Hh Za O8 ?_|refine Ed Hh Za Zcw ?_)
   show Ye 208 none (q3 [1,1,1,1,1,1,1,1,1,1,1,1,1,1,0,1,2]) _ _ _ _
   refine (ih (k+1) _ (by omega) ?_ ?_ ?_ ?_).mono ?_
   ·have Jf:=@t2; exact Zj
   ·have Jf:=@t14; exact Zj
   ·have Jf:=@t18; exact Zj
   ·exact Zc
   rintro x1 ds1 ts2 h2 ⟨rfl,rfl,rfl,tk⟩
   refine⟨rfl,rfl,rfl,fun s hs=>(tk s hs).trans ?_⟩
   simp (decide:=true) only [Yz hs]
omit Hh in
theorem Zuk:∀ {E:List Sl} {g:Nat},(∀ x∈E,x.1≠0)→g<E.length→(E.set g sl0).filter (fun x=>!Nat.beq x.1 0)=E.eraseIdx g
 | [],_,_,h=>by simp at h
 | x :: E,0,h,_=>by
  have:(E.filter fun x=>!Nat.beq x.1 0)=E:=List.filter_eq_self.2 fun y hy=>by rw[Nn (h y (List.mem_cons_of_mem _ hy))]; rfl
  show (sl0 :: E).filter _=E
  rw[List.filter_cons_of_neg (by decide),this]
 | x :: E,g+1,h,hg=>by
  have ih:=Zuk (E:=E) (g:=g) (fun y hy=>h y (List.mem_cons_of_mem _ hy)) (by simpa using hg)
  show (x :: E.set g sl0).filter _=x :: E.eraseIdx g
  rw[List.filter_cons_of_pos (by rw[Nn (h x (List.mem_cons_self ..))]; rfl),ih]
end
theorem rs12:Tryz.f12.results.toList=[.tmp 6]:=rfl
attribute [go_sem] rs12
theorem Zu9 {bs:List Nat} {s:List UInt8}:∀ {A:List (Nat × Sl)},(lkF bs s A).1≠0→∃ (t i:Nat) (x:Sl),A[t]? = some (i,x)∧x.1=(lkF bs s A).1∧x.2=s∧bs.getD i 0=(lkF bs s A).2∧∀ (t':Nat) (p:Nat × Sl),t'<t→A[t']? = some p→p.2.1≠0→p.2.2≠s
 | [],h=>absurd rfl h
 | (i,x) :: r,h=>by
  have e:lkF bs s ((i,x) :: r)=if x.1≠0∧x.2=s then (x.1,bs.getD i 0) else lkF bs s r:=rfl
  rw[e] at h ⊢
  by_cases w:x.1≠0∧x.2=s
  ·rw[if_pos w]
   exact⟨0,i,x,rfl,rfl,w.2,rfl,fun t' p ht=>absurd ht (by omega)⟩
  ·rw[if_neg w] at h ⊢
   obtain⟨t,i',x',h1,h2,h3,h4,h5⟩:=Zu9 h
   refine⟨t+1,i',x',by simpa using h1,h2,h3,h4,fun t' p ht hp p0=>?_⟩
   match t',ht,hp with
   | 0,_,hp =>
    obtain rfl:(i,x)=p:=by simpa using hp
    exact fun q=>w ⟨p0,q⟩
   | t'+1,ht,hp=>exact h5 t' p (by omega) (by simpa using hp) p0
section
variable {a b c e:Nat} {V:Nat→List Nat} {P:Nat→Nat} {bs:List Nat} {L:List (List Sl)} {s:List UInt8}
theorem DirB.Z7c (D:DirB a b c e V P bs L) (h:(lkF bs s (Jn L)).1≠0):∃ i k l x,bs[i]? = some (lkF bs s (Jn L)).2∧L[i]? = some l∧l[k]? = some x∧x.1=(lkF bs s (Jn L)).1∧x.2=s∧(Jn L)[8 * i+k]? = some (i,x)∧∀ t p,t<8 * i+k→(Jn L)[t]? = some p→p.2.1≠0→p.2.2≠s:=by
 obtain⟨t,i,x,h1,h2,h3,h4,h5⟩:=Zu9 h
 obtain⟨d,k,l,rfl,rfl,e3,e4⟩:=Zh9 D.l8 h1
 rw[Nat.zero_add] at h4 h1
 have dl:d<bs.length:=by
  rcases Nat.lt_or_ge d L.length with q|q
  ·rw[D.ll] at q; exact q
  ·rw[List.getElem?_eq_none q] at e3; cases e3
 refine⟨d,k,l,x,?_,e3,e4,h2,h3,h1,h5⟩
 rw[List.getD_eq_getElem?_getD,List.getElem?_eq_getElem dl] at h4
 rw[List.getElem?_eq_getElem dl]
 exact congrArg some h4
end
section
variable (Hh:Hearts K Tryz.prog)
include Hh
variable {n q a b c e:Nat} {cr:Cr} {md:Int} {S:List Nat} {V:Nat→List Nat} {h:Go.Ev.H} {P:Nat→Nat} {bs:List Nat} {L:List (List Sl)} {s:List UInt8} {j g u:Nat}
theorem Z6a (f:Ym a b c e=true) (m0:md≠0) (M:HE n q a b c e cr md S [] V h) (D:DirS a b c e V j g P bs L) (my:Vv s=true) (w0:(lkF bs s (Jn L)).1≠0) (zs:(lkF bs s (Jn L)).2∈S) :
  ∃ h' i k l x z,Zg 12 [.c (.ptr (n+13) 0),.c (.int .i64 ((j+1:Nat):Int)),.c (.str s)] h (.w (.c (.int .i64 0))) h'∧Kp n q h h'∧z=(lkF bs s (Jn L)).2∧bs[i]? = some z∧L[i]? = some l∧l[k]? = some x∧x.1≠0∧x.2=s∧(∀ t p,t<8 * i+k→(Jn L)[t]? = some p→p.2.1≠0→p.2.2≠s)∧HE n q a b c e cr md S [] (O9 V z (Zfp (V z) k)) h'∧DirS a b c e (O9 V z (Zfp (V z) k)) j g P bs (L.set i (l.set k sl0)):=by
 obtain⟨nq,nx,n0⟩:=M.nx
 obtain⟨st,⟨kn,hs⟩,⟨dk,gl⟩,ht⟩:=M.cells
 unfold gdL gdD at gl
 have dm:(md != 0)=true:=Mr m0
 have cM:=fun h=>Zn6 Hh s h
 rw[my] at cM
 have DD:=D
 obtain⟨gz,jl,gb,pb,vd,db,nd,dat⟩:=D
 have ip:=Ti (k:=2) (l:=1) (g:=g) (s:=256 * bs.length) (nx:=0) pb
 have yl:=ip.xl
 obtain⟨i,k,l,x,f1,f2,f3,f4,f5,f6,f7⟩:=db.Z7c w0
 have x0:x.1≠0:=by rw[f4]; exact w0
 obtain⟨d1,d2,d3,d4,l1,d5,d6⟩:=db.at_ i _ f1
 rw[f2] at d5
 cases d5
 obtain⟨hB,c6,BR,nB,MB,kB⟩:=Xe Hh f m0 M gz rfl yl
 obtain⟨hL,c7,ML,⟨cs,LR⟩,nL,kL⟩:=Z1d Hh (s:=s) f m0 MB ip db rfl db.sb BR ⟨by omega,nB⟩
 obtain⟨g0,g1,g2,g3,g4,g5⟩:=Ej (n:=n) (s:=cs) (e:=0) yl
 obtain⟨r0,hr0⟩:∃ r,rdC n (Fa 2 1 g (256 * bs.length) P 0) cs 0=r:=⟨_,rfl⟩
 rw[hr0] at LR g3
 obtain⟨w1,hw1⟩:∃ w,(lkF bs s (Jn L)).1=w:=⟨_,rfl⟩
 obtain⟨z,hz⟩:∃ w,(lkF bs s (Jn L)).2=w:=⟨_,rfl⟩
 rw[hw1,hz] at c7
 rw[hw1] at w0
 rw[hz] at f1 d1 d2 d3 d4 d6 zs ⊢
 have ew:((w1:Int) == 0)=false:=Ee (by omega)
 have D':=DD.upd f1 f2 (d6.rem f3)
 have rl:(Zfp (V z) k).length=256:=(d6.rem f3).vl
 have xl:(pgL (V z)).length=256:=by rw[Jy,d6.vl]
 have rl2:(pgL (Zfp (V z) k)).length=256:=by rw[Jy,rl]
 have hG:=fun {h:Go.Ev.H} (M:HE n q a b c e cr md S [] V h)=>M.get f d3 d4
 have hP:=fun {h:Go.Ev.H} (M:HE n q a b c e cr md S [] V h)=>M.put f d3 d4 rl zs List.not_mem_nil
 have hR:=fun {h:Go.Ev.H} {p:Nat} (hp:h.get p=some (.row 256 [pgL (V z)] false)) (pl:p<h.next)=>Z6k Hh d6 f3 x0 hp pl
 rw[f5] at hR
 obtain⟨V',hV'⟩:∃ V',O9 V z (Zfp (V z) k)=V':=⟨_,rfl⟩
 simp only[hV'] at hP
 obtain⟨X0,hX0⟩:∃ X,pgL (V z)=X:=⟨_,rfl⟩
 obtain⟨X1,hX1⟩:∃ X,pgL (Zfp (V z) k)=X:=⟨_,rfl⟩
 rw[hX0] at xl
 rw[hX1] at rl2
 simp only[hX0] at hG
 simp only[hX0,hX1] at hR
 simp only[hX1] at hP
 obtain⟨v,h',cc,rfl,M',k'⟩:∃ v h',Zg 12 [.c (.ptr (n+13) 0),.c (.int .i64 ((j+1:Nat):Int)),.c (.str s)] h v h'∧v=.w (.c (.int .i64 0))∧HE n q a b c e cr md S [] V' h'∧Kp n q h h':=by
  obtain⟨hG1,eG,MG,nG,kG⟩:=hG ML
  have c12:=Dq Hh eG
  refine Yg Hh Tryz.f12 ?_
  have Jf:=Yy @f (Yu @hs @gl @ht @dm @Ff @LR @g3 @ew @xl)
  iterate 11 (first|apply Zk|apply Zw|refine Goes.Zi Yb ?_|refine Zq Hh (EY Za (Lj Hh)) Yb ?_)
  iterate 4 (first|apply Zk|apply Zw|refine Goes.Zi Yb ?_|refine Zq Hh (Yp Za cM) Yb ?_)
  iterate 2 (first|apply Zk|refine Zq Hh (Zp Za c6) Yb ?_)
  iterate 12 (first|apply Zk|apply Zw|refine Goes.Zi Yb ?_|refine Zq Hh (Zp Za c7) Yb ?_)
  iterate 8 (first|apply Zk|apply Zw|refine Goes.Zi Yb ?_|refine Zq Hh (Zp Za c12) Yb ?_)
  refine Uc fun hD eD=>?_
  have nD:hD.next=hG1.next+1:=by rw[eD]; simp only[H.Zd,H.Zb]
  have kD:∀ m,m<hG1.next→hD.get m=hG1.get m:=fun m hm=>by rw[eD]; exact Yc
  have gD:hD.get hG1.next=some (.row 256 [X0] false):=by rw[eD]; exact Z5
  clear eD
  have MD:=MG.keep (h2:=hD) (by omega) fun m hm=>kD m (by have:=MG.nx; omega)
  obtain⟨hE,c15,gE,nE,kE⟩:=hR gD (by omega)
  have ME:=MD.keep (h2:=hE) nE fun m hm=>kE m (by have:=MD.nx; omega) (by have:=MG.nx; omega)
  obtain⟨hF,eF,MF,nF,kF⟩:=hP ME
  have c17:=Mo Hh eF
  have Jf:=Jb Jf @gE @rl2
  iterate 4 (first|apply Zk|apply Zw|refine Goes.Zi Yb ?_|refine Zq Hh (Zp Za c15) Yb ?_)
  iterate 2 (first|apply Z0|refine Zq Hh (Zp Za c17) Yb ?_)
  exact⟨_,_,Zc,rfl,MF,⟨by have:=kB.1; omega,fun m hm ho=>(kF m ho.1).trans ((kE m (by omega) (by omega)).trans ((kD m (by omega)).trans ((kG m (by omega) ho.1.1).trans ((kL m (by omega) (by omega) ho.1.1).trans (kB.2 m hm ho.1.1)))))⟩⟩
 subst hV'
 exact⟨h',i,k,l,x,z,cc,k',rfl,f1,f2,f3,x0,f5,f7,M',D'⟩
end
end Go.Proofs.YtecakmodlkbnaaaGreatDoor
