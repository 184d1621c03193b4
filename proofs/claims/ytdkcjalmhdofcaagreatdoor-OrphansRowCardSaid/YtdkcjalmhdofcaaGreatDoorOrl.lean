/- orphans.List. -/
import Derived.Test.YtdkcjalmhdofcaaGreatDoorOrh
set_option linter.unusedSimpArgs false
set_option linter.unusedVariables false
set_option linter.unusedSectionVars false
set_option maxRecDepth 100000
set_option maxHeartbeats 4000000
namespace Go.Proofs.YtdkcjalmhdofcaaGreatDoor
open Go.Ev
structure OS (V:Nat→List Nat) (l:List Nat) (m:Nat):Prop where
 nd:l.Nodup
 rg:∀ x∈l,2≤x∧x≤m+1
 m7:m≤7
 sup:V 0=Eo (l.headD 0)
 ino:∀ i:Nat,2≤i→i≤m+1→gI 2 24 8 40 V (i:Int)=(O9 1 1 1 0 0 0 0 0 0 0 0 0 0 0 0 (nxt l i:Nat),0)
theorem OS.z0 {V:Nat→List Nat} {l:List Nat} {m:Nat} (o:OS V l m):0 ∉ l:=fun h=>by have:=(o.rg 0 h).1; omega
theorem OS.nx {V:Nat→List Nat} {l:List Nat} {m:Nat} (o:OS V l m) (i:Nat):nxt l i<9:=by
 have:=o.m7
 rcases Zh6 (l:=l) (i:=i) with h|h
 ·omega
 ·have:=(o.rg _ h).2; omega
theorem OS.hd {V:Nat→List Nat} {l:List Nat} {m:Nat} (o:OS V l m):l.headD 0<9:=by
 have:=o.m7
 cases l with
 | nil=>show 0<9; omega
 | cons x l=>have:=(o.rg x (by simp)).2; show x<9; omega
theorem Zbk:∀ {l:List Nat} {b:Nat},l.Nodup→(∀ x∈l,x<b)→l.length≤b
 | l,0,_,h=>by
  cases l with
  | nil=>exact Nat.le_refl _
  | cons x l=>exact absurd (h x (by simp)) (by omega)
 | l,b+1,hn,h=>by
  by_cases e:b∈l
  ·have:=Zbk (l:=l.erase b) (b:=b) (hn.erase b) fun x hx=>by
    have h1:=List.mem_of_mem_erase hx
    have h2:x≠b:=fun e=>by rw[e] at hx; exact (List.Nodup.not_mem_erase hn) hx
    have:=h x h1
    omega
   rw[List.length_erase_of_mem e] at this
   omega
  ·have:=Zbk (l:=l) (b:=b) hn fun x hx=>by
    have:=h x hx
    have:x≠b:=fun q=>e (q ▸ hx)
    omega
   omega
theorem OS.len {V:Nat→List Nat} {l:List Nat} {m:Nat} (o:OS V l m):l.length≤9:=Zbk o.nd fun x hx=>by have:=(o.rg x hx).2; have:=o.m7; omega
def SlB (b:Nat) (h:Go.Ev.H) (c:C) (l:List Nat):Prop:=SlI h c l∧∀ p o n z,c=.slice p o n z→b≤p∧p<h.next
section
variable (Hh:Hearts K Tryz.prog)
include Hh
variable {n q:Nat} {cr md:Int} {S T:List Nat} {V:Nat→List Nat} {m:Nat} {l:List Nat}
theorem Zw3 (o:OS V l m) {b:Nat} (bq:q+9≤b) (nq:n+23≤q):∀ (k j:Nat) (ts:Zy) (h:Go.Ev.H),j+k=l.length→HE n q 2 24 8 40 cr md S T V h→b≤h.next→(∃ c,Zm ts 6=.w (.c c)∧SlB b h c (l.take j))→Zm ts 0=.w (.c (.ptr (n+13) 0))→Zm ts 7=.w (.c (.int .i64 ((l[j]?).getD 0:Nat))) →
  Goes K Tryz.prog 46 none (q12 [1,1,1,1,1,0,1,2]) [] ts h fun x ds' ts' h'=>x=.exit 0∧ds'=[]∧HE n q 2 24 8 40 cr md S T V h'∧h.next≤h'.next∧(∀ p,p<b→p≠n+6→h'.get p=h.get p)∧∃ c,Zm ts' 6=.w (.c c)∧SlB b h' c l:=by
 have ol:=o.len
 intro k
 induction k with
 | zero =>
  intro j ts h hj M bh st t0 t7
  obtain rfl:j=l.length:=by omega
  obtain⟨c,t6,s⟩:=st
  rw[List.take_length] at s
  rw[List.getElem?_eq_none (Nat.le_refl _)] at t7
  have t7':Zm ts 7=.w (.c (.int .i64 0)):=t7
  iterate 6 (first|apply Goes.seq|apply Goes.exit|apply Goes.loop|((first|apply Goes.Zo|apply Goes.ops2 fits Hh Zb); · simp (maxSteps:=9^6) +decide (disch:=first|omega|(simp only[lens]<;>omega)|decide) only [go_sem,Zd,Za,simprocAttr,t7']<;>rfl))
  refine⟨rfl,rfl,M,Nat.le_refl _,fun _ _ _=>rfl,c,?_,s⟩
  simp (maxSteps:=9^6) +decide (disch:=first|omega|(simp only[lens]<;>omega)|decide) only [go_sem,Zd,Za,simprocAttr,t6]
 | succ k ih =>
  intro j ts h hj M bh st t0 t7
  have jl:j<l.length:=by omega
  obtain⟨x,hx⟩:∃ x,l[j]? = some x:=⟨_,List.getElem?_eq_getElem jl⟩
  have xm:=List.mem_of_getElem? hx
  obtain⟨x1,x2⟩:=o.rg x xm
  have m7:=o.m7
  rw[hx] at t7
  have t7':Zm ts 7=.w (.c (.int .i64 (x:Int))):=t7
  have tk:l.take (j+1)=l.take j++[x]:=by rw[List.take_add_one,hx]; rfl
  have xn:x ∉ l.take j:=fun h=>by
   obtain⟨i,hi⟩:=List.mem_iff_getElem?.1 h
   rw[List.getElem?_take] at hi
   split at hi
   ·rename_i ij
    have:i=j:=(List.getElem?_inj (by omega) o.nd).1 (hi.trans hx.symm)
    omega
   ·cases hi
  have nx:=Zdl o.nd hx
  have nb:=o.nx x
  obtain⟨c,t6,s⟩:=st
  have cC:=Zpv Hh (l:=l.take j) (by rw[List.length_take]; omega) s.1 x
  rw[decide_eq_false xn] at cC
  obtain⟨hG,cG,MG,rG⟩:=Zgj Hh fine4 M (x:Int)
  rw[o.ino x x1 x2] at cG
  have nG:=rG.1
  have wU:Yn .u32 ((nxt l x:Nat):Int)=.int .u32 (nxt l x:Nat):=Vj (by omega)
  obtain⟨v,hv⟩:∃ v,nxt l x=v:=⟨_,rfl⟩
  rw[hv] at cG nx nb wU
  have il:(O9 1 1 1 0 0 0 0 0 0 0 0 0 0 0 0 (v:Int)).length=16:=rfl
  have i15:∀ z:List (List C),(O9 1 1 1 0 0 0 0 0 0 0 0 0 0 0 0 (v:Int))[15]? = some (.int .u32 (v:Int)):=fun _=>rfl
  have i15:=i15 []
  obtain⟨Y,hY⟩:∃ Y,O9 1 1 1 0 0 0 0 0 0 0 0 0 0 0 0 (v:Int)=Y:=⟨_,rfl⟩
  simp only[hY] at cG il i15
  have sG:SlB b hG c (l.take j):=⟨s.1.keep fun p o n z e=>by
   have:=s.2 p o n z e
   exact rG.2 p (by omega) (by omega),fun p o n z e=>by
   have:=s.2 p o n z e
   omega⟩
  rcases sG with ⟨⟨e0,rfl⟩|⟨p,p1,rfl,pp⟩,sb⟩
  ·have ap:=fun (h:Go.Ev.H)=>Zs5 (h:=h) [.int .i64 (x:Int)]
   iterate 9 (first|apply Goes.seq|apply Goes.skip|apply Goes.block|apply Goes.loop|((first|apply Goes.Zo|apply Goes.ops2 fits Hh Zb); · simp (maxSteps:=9^6) +decide (disch:=first|omega|(simp only[lens]<;>omega)|decide) only [go_sem,Za,simprocAttr,t0,t6,t7',il,i15,E8,Rm,ap,wU,Zn,read1]<;>rfl))
   iterate 4 (first|apply Goes.seq|apply Goes.skip|((first|apply Goes.Zo|apply Goes.ops2 fits Hh (Zt Zb cC)); · simp (maxSteps:=9^6) +decide (disch:=first|omega|(simp only[lens]<;>omega)|decide) only [go_sem,Za,simprocAttr,Zw,t0,t6,t7',il,i15,E8,Rm,ap,wU,Zn,read1]<;>rfl))
   iterate 7 (first|apply Goes.seq|apply Goes.skip|((first|apply Goes.Zo|apply Goes.ops2 fits Hh (Zt Zb cG)); · simp (maxSteps:=9^6) +decide (disch:=first|omega|(simp only[lens]<;>omega)|decide) only [go_sem,Za,simprocAttr,Zw,t0,t6,t7',il,i15,E8,Rm,ap,wU,Zn,read1]<;>rfl))
   refine Goes.abs fun hA eA=>?_
   have nA:hA.next=hG.next+1:=by rw[eA]; simp only[H.Zh,H.Zc]
   have kA:∀ p,p<hG.next→hA.get p=hG.get p:=fun p hp=>by rw[eA]; (first|(simp (discharger:=omega) only [H.get_put,H.Zf,H.Zk,H.Zc,H.Zh,H.Zi,if_neg]; done)|(simp only[H.get_put,H.Zf,H.Zk,H.Zc,H.Zh,H.Zi]; (repeat' split)<;>first|rfl|(exfalso; omega)|omega))
   have iA:hA.get hG.next=some (.row 16 [Y] false):=by rw[eA]; simp (maxSteps:=9^6) +decide (disch:=first|omega|(simp only[lens]<;>omega)|decide) only [go_sem,Za,simprocAttr,il]<;>rfl
   clear eA
   have ap:=ap hA
   rw[nA] at ap
   have MA:=MG.keep (h2:=hA) (by omega) (fun m hm=>kA m (by have:=MG.nx.2.1; omega))
   iterate 2 ((apply Goes.ops2 fits Hh Zb; · simp (maxSteps:=9^6) +decide (disch:=first|omega|(simp only[lens]<;>omega)|decide) only [go_sem,Za,simprocAttr,t0,t6,t7',il,i15,E8,Rm,ap,wU,iA,nA,Zn,read1]<;>rfl))
   show Goes K Tryz.prog 46 none (q12 [1,1,1,1,1,0,1,2]) _ _ _ _
   refine (ih (j+1) _ _ (by omega) (MA.keep ?_ (fun p hp=>?_)) ?_ ⟨.slice (hA.next+1) 0 1 1,?_,.inr ⟨hA.next+1,by rw[tk]; simp,?_,?_⟩,?_⟩ ?_ ?_).mono ?_
   ·simp only[H.Zc]; omega
   ·have:=MA.nx.2.1; (first|(simp (discharger:=omega) only [H.get_put,H.Zf,H.Zk,H.Zc,H.Zh,H.Zi,if_neg]; done)|(simp only[H.get_put,H.Zf,H.Zk,H.Zc,H.Zh,H.Zi]; (repeat' split)<;>first|rfl|(exfalso; omega)|omega))
   ·simp only[H.Zc]; omega
   ·simp (maxSteps:=9^6) +decide (disch:=first|omega|(simp only[lens]<;>omega)|decide) only [go_sem,Zd,Za,simprocAttr,nA]
   ·rw[tk,e0]; rfl
   ·rw[tk,e0]; rw[Ju (by simp only[H.Zc]<;>omega)]; rfl
   ·intro p o n z e; cases e; simp only[H.Zc]; omega
   ·simp (maxSteps:=9^6) +decide (disch:=first|omega|(simp only[lens]<;>omega)|decide) only [go_sem,Zd,Za,simprocAttr,t0]
   ·simp (maxSteps:=9^6) +decide (disch:=first|omega|(simp only[lens]<;>omega)|decide) only [go_sem,Zd,Za,simprocAttr,nx]<;>rfl
   rintro x' ds' ts' h' ⟨w1,w2,w3,w4,w5,w6⟩
   simp only[H.Zc] at w4
   refine⟨w1,w2,w3,by omega,fun p hp hne=>(w5 p hp hne).trans ?_,w6⟩
   refine Eq.trans ?_ ((kA p (by omega)).trans (rG.2 p (by omega) hne))
   (first|(simp (discharger:=omega) only [H.get_put,H.Zf,H.Zk,H.Zc,H.Zh,H.Zi,if_neg]; done)|(simp only[H.get_put,H.Zf,H.Zk,H.Zc,H.Zh,H.Zi]; (repeat' split)<;>first|rfl|(exfalso; omega)|omega))
  ·have sb':=sb p 0 _ _ rfl
   have tl:(l.take j).length≤4000:=by rw[List.length_take]; omega
   obtain⟨L',hL'⟩:∃ L',l.take j=L':=⟨_,rfl⟩
   rw[hL'] at pp tl tk p1 t6 cC
   have ap:=fun (h:Go.Ev.H) (ho:h.get p=some (.row 1 (rwI L') false)) (hn:p<h.next)=>Zz6 (h:=h) (L:=rwI L') [.int .i64 (x:Int)] ho hn (by rw[Sg]; exact tl)
   simp only[Sg] at ap
   obtain⟨N,hN⟩:∃ N,L'.length=N:=⟨_,rfl⟩
   rw[hN] at t6 cC
   simp only[hN] at ap
   iterate 9 (first|apply Goes.seq|apply Goes.skip|apply Goes.block|apply Goes.loop|((first|apply Goes.Zo|apply Goes.ops2 fits Hh Zb); · simp (maxSteps:=9^6) +decide (disch:=first|omega|(simp only[lens]<;>omega)|decide) only [go_sem,Za,simprocAttr,t0,t6,t7',il,i15,E8,Rm,ap,wU,Zn,read1]<;>rfl))
   iterate 4 (first|apply Goes.seq|apply Goes.skip|((first|apply Goes.Zo|apply Goes.ops2 fits Hh (Zt Zb cC)); · simp (maxSteps:=9^6) +decide (disch:=first|omega|(simp only[lens]<;>omega)|decide) only [go_sem,Za,simprocAttr,Zw,t0,t6,t7',il,i15,E8,Rm,ap,wU,Zn,read1]<;>rfl))
   iterate 7 (first|apply Goes.seq|apply Goes.skip|((first|apply Goes.Zo|apply Goes.ops2 fits Hh (Zt Zb cG)); · simp (maxSteps:=9^6) +decide (disch:=first|omega|(simp only[lens]<;>omega)|decide) only [go_sem,Za,simprocAttr,Zw,t0,t6,t7',il,i15,E8,Rm,ap,wU,Zn,read1]<;>rfl))
   refine Goes.abs fun hA eA=>?_
   have nA:hA.next=hG.next+1:=by rw[eA]; simp only[H.Zh,H.Zc]
   have kA:∀ p,p<hG.next→hA.get p=hG.get p:=fun p hp=>by rw[eA]; (first|(simp (discharger:=omega) only [H.get_put,H.Zf,H.Zk,H.Zc,H.Zh,H.Zi,if_neg]; done)|(simp only[H.get_put,H.Zf,H.Zk,H.Zc,H.Zh,H.Zi]; (repeat' split)<;>first|rfl|(exfalso; omega)|omega))
   have iA:hA.get hG.next=some (.row 16 [Y] false):=by rw[eA]; simp (maxSteps:=9^6) +decide (disch:=first|omega|(simp only[lens]<;>omega)|decide) only [go_sem,Za,simprocAttr,il]<;>rfl
   clear eA
   have ap:=ap hA ((kA p (by omega)).trans pp) (by omega)
   rw[nA] at ap
   have MA:=MG.keep (h2:=hA) (by omega) (fun m hm=>kA m (by have:=MG.nx.2.1; omega))
   have gd:∀ o o':O,(((hA.new o).del p).new o').get hG.next=some (.row 16 [Y] false):=fun o o'=>by rw[Ye (by simp only[H.Zi,H.Zc]; omega),Rn (by omega),Ye (by omega)]; exact iA
   iterate 2 ((apply Goes.ops2 fits Hh Zb; · simp (maxSteps:=9^6) +decide (disch:=first|omega|(simp only[lens]<;>omega)|decide) only [go_sem,Za,simprocAttr,t0,t6,t7',il,i15,E8,Rm,ap,wU,iA,nA,gd,Zn,read1]<;>rfl))
   show Goes K Tryz.prog 46 none (q12 [1,1,1,1,1,0,1,2]) _ _ _ _
   refine (ih (j+1) _ _ (by omega) (MA.keep ?_ (fun p hp=>?_)) ?_ ⟨.slice (hA.next+1) 0 (N+1) 1,?_,.inr ⟨hA.next+1,by rw[tk]; simp,?_,?_⟩,?_⟩ ?_ ?_).mono ?_
   ·simp only[H.Zc,H.Zi]; omega
   ·have:=MA.nx.2.1; (first|(simp (discharger:=omega) only [H.get_put,H.Zf,H.Zk,H.Zc,H.Zh,H.Zi,if_neg]; done)|(simp only[H.get_put,H.Zf,H.Zk,H.Zc,H.Zh,H.Zi]; (repeat' split)<;>first|rfl|(exfalso; omega)|omega))
   ·simp only[H.Zc,H.Zi]; omega
   ·simp (maxSteps:=9^6) +decide (disch:=first|omega|(simp only[lens]<;>omega)|decide) only [go_sem,Zd,Za,simprocAttr,nA]
   ·rw[tk,List.length_append,hN]; rfl
   ·rw[tk,←Zkn,Ju (by simp only[H.Zc,H.Zi]<;>omega)]
   ·intro p o n z e; cases e; simp only[H.Zc,H.Zi]; omega
   ·simp (maxSteps:=9^6) +decide (disch:=first|omega|(simp only[lens]<;>omega)|decide) only [go_sem,Zd,Za,simprocAttr,t0]
   ·simp (maxSteps:=9^6) +decide (disch:=first|omega|(simp only[lens]<;>omega)|decide) only [go_sem,Zd,Za,simprocAttr,nx]<;>rfl
   rintro x' ds' ts' h' ⟨w1,w2,w3,w4,w5,w6⟩
   simp only[H.Zc,H.Zi] at w4
   refine⟨w1,w2,w3,by omega,fun p' hp hne=>(w5 p' hp hne).trans ?_,w6⟩
   refine Eq.trans ?_ ((kA p' (by omega)).trans (rG.2 p' (by omega) hne))
   (first|(simp (discharger:=omega) only [H.get_put,H.Zf,H.Zk,H.Zc,H.Zh,H.Zi,if_neg]; done)|(simp only[H.get_put,H.Zf,H.Zk,H.Zc,H.Zh,H.Zi]; (repeat' split)<;>first|rfl|(exfalso; omega)|omega))
theorem Zvx (o:OS V l m) (m1:1≤md∧md≤3) {h:Go.Ev.H} (M:HE n q 2 24 8 40 cr md S T V h) :
  ∃ h' c,Zg K Tryz.prog 12 [.c (.ptr (n+13) 0)] h (.tup [.c c,.c (.int .i64 0)]) h'∧HE n q 2 24 8 40 cr md S T V h'∧Kr n q h h'∧SlB h.next h' c l:=by
 obtain⟨nq,nx,n0⟩:=M.nx
 obtain⟨st,⟨kn,hs⟩,⟨dk,gl⟩,ht⟩:=M.cells
 unfold gdL gdD at gl
 have f:=fine4
 have dm:(md != 0)=true:=Zj8 (by omega)
 obtain⟨hB,c3,MB,rB⟩:=Z0g Hh M o.hd o.sup
 have nB:=rB.1
 have sl:(Sv (l.headD 0)).length=5:=rfl
 have s4:(Sv (l.headD 0))[4]? = some (.int .u32 (l.headD 0:Nat)):=rfl
 have hd9:=o.hd
 obtain⟨u,hu⟩:∃ u,l.headD 0=u:=⟨_,rfl⟩
 rw[hu] at c3 sl s4 hd9
 obtain⟨y,hy⟩:∃ y,Sv u=y:=⟨_,rfl⟩
 rw[hy] at c3 sl s4
 have l0:((l[0]?).getD 0:Nat)=u:=by rw[←hu]; cases l<;>rfl
 obtain⟨v,h',cc,c,rfl,M',kk,s⟩:∃ v h',Zg K Tryz.prog 12 [.c (.ptr (n+13) 0)] h v h'∧∃ c,v=.tup [.c c,.c (.int .i64 0)]∧HE n q 2 24 8 40 cr md S T V h'∧Kr n q h h'∧SlB h.next h' c l:=by
  refine Zg.Yb fits Hh (by kernel_rfl) (by kernel_rfl) (by kernel_rfl) (show Tryz.f12.body=some _ from rfl) rfl ?_
  iterate 8 (first|apply Goes.seq|apply Goes.skip|((first|apply Goes.Zo|apply Goes.ops2 fits Hh (Zj Zb (fun _ _ _ _=>Zgm Hh))); · simp (maxSteps:=9^6) +decide (disch:=first|omega|(simp only[lens]<;>omega)|decide) only [go_sem,Za,simprocAttr,f,hs,stG,gl,dm,sl,s4,read1]<;>rfl))
  iterate 12 (first|apply Goes.seq|apply Goes.skip|apply Goes.block|((first|apply Goes.Zo|apply Goes.ops2 fits Hh (Zt Zb c3)); · simp (maxSteps:=9^6) +decide (disch:=first|omega|(simp only[lens]<;>omega)|decide) only [go_sem,Za,simprocAttr,Zw,f,hs,stG,gl,dm,sl,s4,read1]<;>rfl))
  refine Goes.abs fun hC eC=>?_
  have nC:hC.next=hB.next+1:=by rw[eC]; simp only[H.Zh,H.Zc]
  have kC:∀ m,m<hB.next→hC.get m=hB.get m:=fun m hm=>by rw[eC]; (first|(simp (discharger:=omega) only [H.get_put,H.Zf,H.Zk,H.Zc,H.Zh,H.Zi,if_neg]; done)|(simp only[H.get_put,H.Zf,H.Zk,H.Zc,H.Zh,H.Zi]; (repeat' split)<;>first|rfl|(exfalso; omega)|omega))
  clear eC
  have MC:=MB.keep (h2:=hC) (by omega) (fun m hm=>kC m (by omega))
  refine (Zw3 Hh o (b:=h.next) nx nq l.length 0 _ _ (by omega) MC (by omega) ⟨.snil,?_,.inl ⟨rfl,rfl⟩,fun p o n z e=>by cases e⟩ ?_ ?_).mono ?_
  ·simp (maxSteps:=9^6) +decide (disch:=first|omega|(simp only[lens]<;>omega)|decide) only [go_sem,Zd,Za,simprocAttr]<;>rfl
  ·simp (maxSteps:=9^6) +decide (disch:=first|omega|(simp only[lens]<;>omega)|decide) only [go_sem,Zd,Za,simprocAttr]<;>rfl
  ·rw[l0]; simp (maxSteps:=9^6) +decide (disch:=first|omega|(simp only[lens]<;>omega)|decide) only [go_sem,Zd,Za,simprocAttr]<;>rfl
  rintro x ds' ts' h' ⟨rfl,rfl,M',n1,k1,c,t6,s⟩
  iterate 3 (first|apply Goes.seq|apply Goes.ret|(apply Goes.ops2 fits Hh Zb; · simp (maxSteps:=9^6) +decide (disch:=first|omega|(simp only[lens]<;>omega)|decide) only [go_sem,Zd,Za,simprocAttr,t6]<;>rfl))
  exact⟨_,_,(by simp (maxSteps:=9^6) +decide (disch:=first|omega|(simp only[lens]<;>omega)|decide) only [go_sem,Zd,Za,simprocAttr,t6]<;>rfl),c,rfl,M',⟨by omega,fun p hp hne=>(k1 p hp hne).trans ((kC p (by omega)).trans (rB.2 p hp hne))⟩,s⟩
 exact⟨h',c,cc,M',kk,s⟩
end
end Go.Proofs.YtdkcjalmhdofcaaGreatDoor
