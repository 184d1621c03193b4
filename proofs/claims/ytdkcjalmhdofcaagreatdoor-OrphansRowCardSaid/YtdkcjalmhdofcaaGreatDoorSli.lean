/- Slices of ints: slices.Index, slices.Contains, quernref14.Has, quernref11.Same; append. -/
import Derived.Test.YtdkcjalmhdofcaaGreatDoorTy
import Derived.Test.YtdkcjalmhdofcaaGreatDoorEvC
import Derived.KernelRfl
set_option linter.unusedSimpArgs false
set_option linter.unusedVariables false
set_option linter.unusedSectionVars false
set_option maxRecDepth 100000
set_option maxHeartbeats 4000000
namespace Go.Proofs.YtdkcjalmhdofcaaGreatDoor
open Go.Ev
theorem ty3:K.types.get 3=some ti3:=by kernel_rfl
theorem sz3:ti3.size=1:=by rfl
theorem ag3:ti3.agg=false:=by rfl
theorem de3:ti3.desc=(.int .i64):=by rfl
theorem ze3:ti3.zero=(.c (.int .i64 0)):=by rfl
theorem by3:ti3.bytes=8:=by rfl
theorem ke3 (k:IntKind) (n:Int):Bn K 20 3 (.c (.int k n))=true:=by kernel_rfl
theorem ty22:K.types.get 22=some ti22:=by kernel_rfl
theorem sz22:ti22.size=1:=by rfl
theorem ag22:ti22.agg=false:=by rfl
theorem de22:ti22.desc=(.slice 3):=by rfl
theorem ze22:ti22.zero=(.c (.snil)):=by rfl
theorem by22:ti22.bytes=24:=by rfl
theorem el22:Yz K 22=some ti3:=by kernel_rfl
attribute [go_sem] ty3 sz3 ag3 de3 ze3 by3 ke3 ty22 sz22 ag22 de22 ze22 by22 el22
noncomputable def q9 (p:List Nat):Code:=piece p (Jz Tryz.f9)
noncomputable def q13 (p:List Nat):Code:=piece p (Jz Tryz.f13)
noncomputable def q42 (p:List Nat):Code:=piece p (Jz Tryz.f42)
theorem rs42:Tryz.f42.results.toList=[.tmp 4]:=rfl
theorem rs39:Tryz.f39.results.toList=[.tmp 4]:=rfl
theorem rs9:Tryz.f9.results.toList=[.tmp 4]:=rfl
theorem rs13:Tryz.f13.results.toList=[.tmp 4]:=rfl
attribute [go_sem] rs42 rs39 rs9 rs13
def rwI (l:List Nat):List (List C):=l.map fun (x:Nat)=>[.int .i64 (x:Int)]
theorem Sg (l:List Nat):(rwI l).length=l.length:=by simp [rwI]
theorem Zv1 {l:List Nat} {k x:Nat} (h:l[k]? = some x):(rwI l)[k]? = some [.int .i64 (x:Int)]:=by simp [rwI,h]
theorem rdI {l:List Nat} {k x:Nat} (h:l[k]? = some x):read1 1 (rwI l) k=some (.int .i64 (x:Int)):=by
 have:=Dn (sz:=1) (i:=k) (j:=0) (by omega) (Zv1 h)
 rw[Nat.mul_one,Nat.add_zero] at this
 exact this
def SlI (h:Go.Ev.H) (c:C) (l:List Nat):Prop:=(l=[]∧c=.snil)∨∃ p,0<l.length∧c=.slice p 0 l.length 1∧h.get p=some (.row 1 (rwI l) false)
theorem SlI.keep {h h2:Go.Ev.H} {c:C} {l:List Nat} (s:SlI h c l) (k:∀ p o n z,c=.slice p o n z→h2.get p=h.get p):SlI h2 c l:=by
 rcases s with s|⟨p,h1,rfl,h2⟩
 ·exact .inl s
 ·exact .inr ⟨p,h1,rfl,(k _ _ _ _ rfl).trans h2⟩
theorem Mq (p o l:Nat):Yr K 22 (.c (.slice p o l 1))=true:=by kernel_rfl
theorem Xl:Yr K 22 (.c .snil)=true:=by kernel_rfl
def ixI:List Nat→Nat→Int
 | [],_=>-1
 | x :: l,i=>if x=i then 0 else if ixI l i<0 then -1 else ixI l i+1
theorem Zth:∀ {l:List Nat} {i t:Nat},l[t]? = some i→(∀ j,j<t→l[j]?≠some i)→ixI l i=(t:Int)
 | [],_,_,h,_=>by simp at h
 | x :: l,i,0,h,_=>by
  obtain rfl:x=i:=by simpa using h
  unfold ixI
  rw[if_pos rfl]
  rfl
 | x :: l,i,t+1,h,b=>by
  have ne:x≠i:=fun e=>b 0 (by omega) (by simp [e])
  have ih:=Zth (l:=l) (i:=i) (t:=t) (by simpa using h) fun j hj e=>b (j+1) (by omega) (by simpa using e)
  unfold ixI
  rw[if_neg ne,ih,if_neg (by omega)]
  omega
theorem Zcv:∀ {l:List Nat} {i:Nat},i ∉ l→ixI l i = -1
 | [],_,_=>rfl
 | x :: l,i,h=>by
  rw[List.mem_cons,not_or] at h
  unfold ixI
  rw[if_neg (Ne.symm h.1),Zcv h.2]
  rfl
theorem Ztt:∀ {l:List Nat} {i:Nat},i∈l→0≤ixI l i
 | [],_,h=>by simp at h
 | x :: l,i,h=>by
  unfold ixI
  by_cases e:x=i
  ·rw[if_pos e]; omega
  ·have:=Ztt (l:=l) (i:=i) (by
    rcases List.mem_cons.1 h with q|q
    ·exact absurd q.symm e
    ·exact q)
   rw[if_neg e,if_neg (by omega)]
   omega
theorem Z22 {l:List Nat} {i:Nat}:decide (0≤ixI l i)=decide (i∈l):=by
 by_cases h:i∈l
 ·rw[decide_eq_true h,decide_eq_true (Ztt h)]
 ·rw[decide_eq_false h,Zcv h]; rfl
section
variable (Hh:Hearts K Tryz.prog)
include Hh
theorem Zyf {l:List Nat} {p i:Nat} {h:Go.Ev.H} (ll:l.length<1000000) (hp:h.get p=some (.row 1 (rwI l) false)):∀ (k j:Nat) (ts:Zy),j+k=l.length→(∀ m,m<j→l[m]?≠some i)→Zm ts 0=.w (.c (.slice p 0 l.length 1))→Zm ts 1=.w (.c (.int .i64 (i:Int)))→Zm ts 7=.w (.c (.int .i64 (l.length:Int)))→Zm ts 8=.w (.c (.int .i64 (j:Int))) →
  Goes K Tryz.prog 19 none (q42 [1,0,1,2]) [] ts h fun x ds' ts' h'=>((x=.ret∧Zm ts' 4=.w (.c (.int .i64 (ixI l i))))∨(x=.exit 0∧ixI l i = -1))∧ds'=[]∧h'=h:=by
 intro k
 induction k with
 | zero =>
  intro j ts hj b t0 t1 t7 t8
  obtain rfl:j=l.length:=by omega
  iterate 6 (first|apply Goes.seq|apply Goes.exit|apply Goes.loop|((first|apply Goes.Zo|apply Goes.ops2 fits Hh Zb); · simp (maxSteps:=9^6) +decide (disch:=first|omega|(simp only[lens]<;>omega)|decide) only [go_sem,Zd,Za,simprocAttr,t7,t8]<;>rfl))
  refine⟨.inr ⟨rfl,?_⟩,rfl,rfl⟩
  refine Zcv fun m=>?_
  obtain⟨m,hm⟩:=List.mem_iff_getElem?.1 m
  refine b m ?_ hm
  rcases Nat.lt_or_ge m l.length with q|q
  ·exact q
  ·rw[List.getElem?_eq_none q] at hm; cases hm
 | succ k ih =>
  intro j ts hj b t0 t1 t7 t8
  have jl:j<l.length:=by omega
  obtain⟨x,hx⟩:∃ x,l[j]? = some x:=⟨_,List.getElem?_eq_getElem jl⟩
  have rd:=rdI hx
  obtain⟨n,hn⟩:∃ n,l.length=n:=⟨_,rfl⟩
  obtain⟨R,hR⟩:∃ R,rwI l=R:=⟨_,rfl⟩
  have hp':=hp
  have t0':=t0
  have t7':=t7
  rw[hR] at hp' rd
  rw[hn] at t0' t7' jl ll
  by_cases e:i=x
  ·subst e
   have ei:((i:Int) == (i:Int))=true:=Q4 rfl
   have ix:=Zth hx b
   rw[ix]
   iterate 16 (first|apply Goes.seq|apply Goes.skip|apply Goes.block|apply Goes.ret|apply Goes.loop|((first|apply Goes.Zo|apply Goes.ops2 fits Hh Zb); · simp (maxSteps:=9^6) +decide (disch:=first|omega|(simp only[lens]<;>omega)|decide) only [go_sem,Zd,Za,simprocAttr,t0',t1,t7',t8,hp',rd,ei]<;>rfl))
   refine⟨.inl ⟨rfl,?_⟩,rfl,rfl⟩
   simp (maxSteps:=9^6) +decide (disch:=first|omega|(simp only[lens]<;>omega)|decide) only [go_sem,Zd,Za,simprocAttr,t8]<;>rfl
  ·have ei:((i:Int) == (x:Int))=false:=Va (by omega)
   iterate 15 (first|apply Goes.seq|apply Goes.skip|apply Goes.block|apply Goes.loop|((first|apply Goes.Zo|apply Goes.ops2 fits Hh Zb); · simp (maxSteps:=9^6) +decide (disch:=first|omega|(simp only[lens]<;>omega)|decide) only [go_sem,Zd,Za,simprocAttr,t0',t1,t7',t8,hp',rd,ei]<;>rfl))
   show Goes K Tryz.prog 19 none (q42 [1,0,1,2]) _ _ _ _
   refine ih (j+1) _ (by omega) (fun m hm=>?_) ?_ ?_ ?_ ?_
   ·rcases Nat.lt_or_ge m j with q|q
    ·exact b m q
    ·obtain rfl:m=j:=by omega
     rw[hx]; exact fun w=>e (Option.some.inj w).symm
   ·simp (maxSteps:=9^6) +decide (disch:=first|omega|(simp only[lens]<;>omega)|decide) only [go_sem,Zd,Za,simprocAttr,t0]
   ·simp (maxSteps:=9^6) +decide (disch:=first|omega|(simp only[lens]<;>omega)|decide) only [go_sem,Zd,Za,simprocAttr,t1]
   ·simp (maxSteps:=9^6) +decide (disch:=first|omega|(simp only[lens]<;>omega)|decide) only [go_sem,Zd,Za,simprocAttr,t7]
   ·simp (maxSteps:=9^6) +decide (disch:=first|omega|(simp only[lens]<;>omega)|decide) only [go_sem,Zd,Za,simprocAttr]<;>rfl
theorem Zt4 {h:Go.Ev.H} {c:C} {l:List Nat} (ll:l.length<1000000) (s:SlI h c l) (i:Nat):Zg K Tryz.prog 42 [.c c,.c (.int .i64 (i:Int))] h (.w (.c (.int .i64 (ixI l i)))) h:=by
 have lf:=Mq
 have lf0:=Xl
 rcases s with ⟨rfl,rfl⟩|⟨p,l1,rfl,hp⟩
 ·have e:ixI [] i = -1:=rfl
  rw[e]
  refine Zg.goes fits Hh (by kernel_rfl) (by kernel_rfl) (by kernel_rfl) (show Tryz.f42.body=some _ from rfl) rfl ?_
  repeat (first|apply Goes.seq|apply Goes.block|apply Goes.loop|apply Goes.skip|apply Goes.exit|apply Goes.ret|((first|apply Goes.Zo|apply Goes.ops2 fits Hh Zb); · simp (maxSteps:=9^6) +decide (disch:=first|omega|(simp only[lens]<;>omega)|decide) only [go_sem,Zd,Za,simprocAttr,lf0,Zn,Yg]<;>rfl))
  simp (maxSteps:=9^6) +decide (disch:=first|omega|(simp only[lens]<;>omega)|decide) only [go_sem,Zd,Za,simprocAttr]<;>rfl
 ·obtain⟨v,h',cc,rfl,rfl⟩:∃ v h',Zg K Tryz.prog 42 [.c (.slice p 0 l.length 1),.c (.int .i64 (i:Int))] h v h'∧v=.w (.c (.int .i64 (ixI l i)))∧h'=h:=by
   have lp:=Zyf Hh (i:=i) ll hp l.length 0
   obtain⟨n,hn⟩:∃ n,l.length=n:=⟨_,rfl⟩
   simp only[hn] at lp ⊢
   refine Zg.Yb fits Hh (by kernel_rfl) (by kernel_rfl) (by kernel_rfl) (show Tryz.f42.body=some _ from rfl) rfl ?_
   iterate 6 (first|apply Goes.seq|apply Goes.block|(apply Goes.ops2 fits Hh Zb; · simp (maxSteps:=9^6) +decide (disch:=first|omega|(simp only[lens]<;>omega)|decide) only [go_sem,Zd,Za,simprocAttr,lf,Zn,Yg]<;>rfl))
   refine (lp _ (by omega) (fun m hm=>by omega) ?_ ?_ ?_ ?_).mono ?_
   ·simp (maxSteps:=9^6) +decide (disch:=first|omega|(simp only[lens]<;>omega)|decide) only [go_sem,Zd,Za,simprocAttr]<;>rfl
   ·simp (maxSteps:=9^6) +decide (disch:=first|omega|(simp only[lens]<;>omega)|decide) only [go_sem,Zd,Za,simprocAttr]<;>rfl
   ·simp (maxSteps:=9^6) +decide (disch:=first|omega|(simp only[lens]<;>omega)|decide) only [go_sem,Zd,Za,simprocAttr]<;>rfl
   ·simp (maxSteps:=9^6) +decide (disch:=first|omega|(simp only[lens]<;>omega)|decide) only [go_sem,Zd,Za,simprocAttr]<;>rfl
   rintro x ds' ts' h' ⟨hx,rfl,rfl⟩
   rcases hx with ⟨rfl,t4⟩|⟨rfl,ix⟩
   ·exact⟨_,_,(by simp (maxSteps:=9^6) +decide (disch:=first|omega|(simp only[lens]<;>omega)|decide) only [go_sem,Zd,Za,simprocAttr,t4]<;>rfl),rfl,rfl⟩
   ·rw[ix]
    iterate 3 (first|apply Goes.seq|apply Goes.ret|(apply Goes.ops2 fits Hh Zb; · simp (maxSteps:=9^6) +decide (disch:=first|omega|(simp only[lens]<;>omega)|decide) only [go_sem,Zd,Za,simprocAttr]<;>rfl))
    exact⟨_,_,(by simp (maxSteps:=9^6) +decide (disch:=first|omega|(simp only[lens]<;>omega)|decide) only [go_sem,Zd,Za,simprocAttr]<;>rfl),rfl,rfl⟩
  exact cc
theorem Zpv {h:Go.Ev.H} {c:C} {l:List Nat} (ll:l.length<1000000) (s:SlI h c l) (i:Nat):Zg K Tryz.prog 39 [.c c,.c (.int .i64 (i:Int))] h (.w (.c (.bool (decide (i∈l))))) h:=by
 have c1:=Zt4 Hh ll s i
 have ie:=Z22 (l:=l) (i:=i)
 obtain⟨b,hb⟩:∃ b,decide (i∈l)=b:=⟨_,rfl⟩
 obtain⟨z,hz⟩:∃ z,ixI l i=z:=⟨_,rfl⟩
 rw[hb,hz] at ie
 rw[hz] at c1
 rw[hb]
 refine Zg.goes fits Hh (by kernel_rfl) (by kernel_rfl) (by kernel_rfl) (show Tryz.f39.body=some _ from rfl) rfl ?_
 iterate 3 (first|apply Goes.seq|(apply Goes.ops2 fits Hh Zb; · simp (maxSteps:=9^6) +decide (disch:=first|omega|(simp only[lens]<;>omega)|decide) only [go_sem,Zd,Za,simprocAttr,ie]<;>rfl))
 iterate 2 (first|apply Goes.ret|(apply Goes.ops2 fits Hh (Zt Zb c1); · simp (maxSteps:=9^6) +decide (disch:=first|omega|(simp only[lens]<;>omega)|decide) only [go_sem,Zd,Za,simprocAttr,Zw,ie]<;>rfl))
 simp (maxSteps:=9^6) +decide (disch:=first|omega|(simp only[lens]<;>omega)|decide) only [go_sem,Zd,Za,simprocAttr,ie]<;>rfl
theorem Zyk {l:List Nat} {p i:Nat} {h:Go.Ev.H} (ll:l.length<1000000) (hp:h.get p=some (.row 1 (rwI l) false)):∀ (k j:Nat) (ts:Zy),j+k=l.length→(∀ m,m<j→l[m]?≠some i)→Zm ts 0=.w (.c (.slice p 0 l.length 1))→Zm ts 1=.w (.c (.int .i64 (i:Int)))→Zm ts 5=.w (.c (.int .i64 (j:Int))) →
  Goes K Tryz.prog 18 none (q9 [1,0,1,2]) [] ts h fun x ds' ts' h'=>((x=.ret∧i∈l∧Zm ts' 4=.w (.c (.bool true)))∨(x=.exit 0∧i ∉ l))∧ds'=[]∧h'=h:=by
 have lf:=Mq
 intro k
 induction k with
 | zero =>
  intro j ts hj b t0 t1 t5
  obtain rfl:j=l.length:=by omega
  iterate 6 (first|apply Goes.seq|apply Goes.exit|apply Goes.loop|((first|apply Goes.Zo|apply Goes.ops2 fits Hh Zb); · simp (maxSteps:=9^6) +decide (disch:=first|omega|(simp only[lens]<;>omega)|decide) only [go_sem,Zd,Za,simprocAttr,t0,t5,lf,Zn,Yg]<;>rfl))
  refine⟨.inr ⟨rfl,fun m=>?_⟩,rfl,rfl⟩
  obtain⟨m,hm⟩:=List.mem_iff_getElem?.1 m
  refine b m ?_ hm
  rcases Nat.lt_or_ge m l.length with q|q
  ·exact q
  ·rw[List.getElem?_eq_none q] at hm; cases hm
 | succ k ih =>
  intro j ts hj b t0 t1 t5
  have jl:j<l.length:=by omega
  obtain⟨x,hx⟩:∃ x,l[j]? = some x:=⟨_,List.getElem?_eq_getElem jl⟩
  have rd:=rdI hx
  obtain⟨n,hn⟩:∃ n,l.length=n:=⟨_,rfl⟩
  obtain⟨R,hR⟩:∃ R,rwI l=R:=⟨_,rfl⟩
  have hp':=hp
  have t0':=t0
  rw[hR] at hp' rd
  rw[hn] at t0' jl ll
  by_cases e:x=i
  ·subst e
   have ei:((x:Int) == (x:Int))=true:=Q4 rfl
   iterate 14 (first|apply Goes.seq|apply Goes.skip|apply Goes.block|apply Goes.ret|apply Goes.loop|((first|apply Goes.Zo|apply Goes.ops2 fits Hh Zb); · simp (maxSteps:=9^6) +decide (disch:=first|omega|(simp only[lens]<;>omega)|decide) only [go_sem,Zd,Za,simprocAttr,t0',t1,t5,lf,hp',rd,ei,Zn,Yg]<;>rfl))
   refine⟨.inl ⟨rfl,List.mem_of_getElem? hx,?_⟩,rfl,rfl⟩
   simp (maxSteps:=9^6) +decide (disch:=first|omega|(simp only[lens]<;>omega)|decide) only [go_sem,Zd,Za,simprocAttr]<;>rfl
  ·have ei:((x:Int) == (i:Int))=false:=Va (by omega)
   iterate 13 (first|apply Goes.seq|apply Goes.skip|apply Goes.block|apply Goes.loop|((first|apply Goes.Zo|apply Goes.ops2 fits Hh Zb); · simp (maxSteps:=9^6) +decide (disch:=first|omega|(simp only[lens]<;>omega)|decide) only [go_sem,Zd,Za,simprocAttr,t0',t1,t5,lf,hp',rd,ei,Zn,Yg]<;>rfl))
   show Goes K Tryz.prog 18 none (q9 [1,0,1,2]) _ _ _ _
   refine ih (j+1) _ (by omega) (fun m hm=>?_) ?_ ?_ ?_
   ·rcases Nat.lt_or_ge m j with q|q
    ·exact b m q
    ·obtain rfl:m=j:=by omega
     rw[hx]; exact fun w=>e (Option.some.inj w)
   ·simp (maxSteps:=9^6) +decide (disch:=first|omega|(simp only[lens]<;>omega)|decide) only [go_sem,Zd,Za,simprocAttr,t0]
   ·simp (maxSteps:=9^6) +decide (disch:=first|omega|(simp only[lens]<;>omega)|decide) only [go_sem,Zd,Za,simprocAttr,t1]
   ·simp (maxSteps:=9^6) +decide (disch:=first|omega|(simp only[lens]<;>omega)|decide) only [go_sem,Zd,Za,simprocAttr]<;>rfl
theorem Zz5 {h:Go.Ev.H} {c:C} {l:List Nat} (ll:l.length<1000000) (s:SlI h c l) (i:Nat):Zg K Tryz.prog 9 [.c c,.c (.int .i64 (i:Int))] h (.w (.c (.bool (decide (i∈l))))) h:=by
 have lf:=Mq
 have lf0:=Xl
 rcases s with ⟨rfl,rfl⟩|⟨p,l1,rfl,hp⟩
 ·have e:decide (i∈([]:List Nat))=false:=decide_eq_false (by simp)
  rw[e]
  refine Zg.goes fits Hh (by kernel_rfl) (by kernel_rfl) (by kernel_rfl) (show Tryz.f9.body=some _ from rfl) rfl ?_
  repeat (first|apply Goes.seq|apply Goes.block|apply Goes.loop|apply Goes.skip|apply Goes.exit|apply Goes.ret|((first|apply Goes.Zo|apply Goes.ops2 fits Hh Zb); · simp (maxSteps:=9^6) +decide (disch:=first|omega|(simp only[lens]<;>omega)|decide) only [go_sem,Zd,Za,simprocAttr,lf0,Zn,Yg]<;>rfl))
  simp (maxSteps:=9^6) +decide (disch:=first|omega|(simp only[lens]<;>omega)|decide) only [go_sem,Zd,Za,simprocAttr]<;>rfl
 ·obtain⟨v,h',cc,rfl,rfl⟩:∃ v h',Zg K Tryz.prog 9 [.c (.slice p 0 l.length 1),.c (.int .i64 (i:Int))] h v h'∧v=.w (.c (.bool (decide (i∈l))))∧h'=h:=by
   have lp:=Zyk Hh (i:=i) ll hp l.length 0
   obtain⟨n,hn⟩:∃ n,l.length=n:=⟨_,rfl⟩
   simp only[hn] at lp ⊢
   refine Zg.Yb fits Hh (by kernel_rfl) (by kernel_rfl) (by kernel_rfl) (show Tryz.f9.body=some _ from rfl) rfl ?_
   iterate 6 (first|apply Goes.seq|apply Goes.block|(apply Goes.ops2 fits Hh Zb; · simp (maxSteps:=9^6) +decide (disch:=first|omega|(simp only[lens]<;>omega)|decide) only [go_sem,Zd,Za,simprocAttr,lf,Zn,Yg]<;>rfl))
   refine (lp _ (by omega) (fun m hm=>by omega) ?_ ?_ ?_).mono ?_
   ·simp (maxSteps:=9^6) +decide (disch:=first|omega|(simp only[lens]<;>omega)|decide) only [go_sem,Zd,Za,simprocAttr]<;>rfl
   ·simp (maxSteps:=9^6) +decide (disch:=first|omega|(simp only[lens]<;>omega)|decide) only [go_sem,Zd,Za,simprocAttr]<;>rfl
   ·simp (maxSteps:=9^6) +decide (disch:=first|omega|(simp only[lens]<;>omega)|decide) only [go_sem,Zd,Za,simprocAttr]<;>rfl
   rintro x ds' ts' h' ⟨hx,rfl,rfl⟩
   rcases hx with ⟨rfl,m,t4⟩|⟨rfl,m⟩
   ·rw[decide_eq_true m]
    exact⟨_,_,(by simp (maxSteps:=9^6) +decide (disch:=first|omega|(simp only[lens]<;>omega)|decide) only [go_sem,Zd,Za,simprocAttr,t4]<;>rfl),rfl,rfl⟩
   ·rw[decide_eq_false m]
    iterate 3 (first|apply Goes.seq|apply Goes.ret|(apply Goes.ops2 fits Hh Zb; · simp (maxSteps:=9^6) +decide (disch:=first|omega|(simp only[lens]<;>omega)|decide) only [go_sem,Zd,Za,simprocAttr]<;>rfl))
    exact⟨_,_,(by simp (maxSteps:=9^6) +decide (disch:=first|omega|(simp only[lens]<;>omega)|decide) only [go_sem,Zd,Za,simprocAttr]<;>rfl),rfl,rfl⟩
  exact cc
theorem Zrm {l:List Nat} {p p2:Nat} {h:Go.Ev.H} (ll:l.length<1000000) (hp:h.get p=some (.row 1 (rwI l) false)) (hp2:h.get p2=some (.row 1 (rwI l) false)):∀ (k j:Nat) (ts:Zy),j+k=l.length→Zm ts 0=.w (.c (.slice p 0 l.length 1))→Zm ts 1=.w (.c (.slice p2 0 l.length 1))→Zm ts 5=.w (.c (.int .i64 (j:Int))) →
  Goes K Tryz.prog 26 none (q13 [1,1,0,1,2]) [] ts h fun x ds' ts' h'=>x=.exit 0∧ds'=[]∧h'=h:=by
 have lf:=Mq
 intro k
 induction k with
 | zero =>
  intro j ts hj t0 t1 t5
  obtain rfl:j=l.length:=by omega
  iterate 6 (first|apply Goes.seq|apply Goes.exit|apply Goes.loop|((first|apply Goes.Zo|apply Goes.ops2 fits Hh Zb); · simp (maxSteps:=9^6) +decide (disch:=first|omega|(simp only[lens]<;>omega)|decide) only [go_sem,Zd,Za,simprocAttr,t0,t5,lf,Zn,Yg]<;>rfl))
  exact⟨rfl,rfl,rfl⟩
 | succ k ih =>
  intro j ts hj t0 t1 t5
  have jl:j<l.length:=by omega
  obtain⟨x,hx⟩:∃ x,l[j]? = some x:=⟨_,List.getElem?_eq_getElem jl⟩
  have rd:=rdI hx
  obtain⟨n,hn⟩:∃ n,l.length=n:=⟨_,rfl⟩
  obtain⟨R,hR⟩:∃ R,rwI l=R:=⟨_,rfl⟩
  have hp':=hp
  have hp2':=hp2
  have t0':=t0
  have t1':=t1
  rw[hR] at hp' hp2' rd
  rw[hn] at t0' t1' jl ll
  have ei:((x:Int) != (x:Int))=false:=Zpt rfl
  iterate 13 (first|apply Goes.seq|apply Goes.skip|apply Goes.block|apply Goes.loop|((first|apply Goes.Zo|apply Goes.ops2 fits Hh Zb); · simp (maxSteps:=9^6) +decide (disch:=first|omega|(simp only[lens]<;>omega)|decide) only [go_sem,Zd,Za,simprocAttr,t0',t1',t5,lf,hp',hp2',rd,ei,Zn,Yg]<;>rfl)|(apply Goes.drawn2 fits Hh Zb (by kernel_rfl); · simp (maxSteps:=9^6) +decide (disch:=first|omega|(simp only[lens]<;>omega)|decide) only [go_sem,Zd,Za,simprocAttr,drG,t0',t1',t5,lf,hp',hp2',rd,ei,Zn,Yg]<;>rfl))
  show Goes K Tryz.prog 26 none (q13 [1,1,0,1,2]) _ _ _ _
  refine ih (j+1) _ (by omega) ?_ ?_ ?_
  ·simp (maxSteps:=9^6) +decide (disch:=first|omega|(simp only[lens]<;>omega)|decide) only [go_sem,Zd,Za,simprocAttr,t0]
  ·simp (maxSteps:=9^6) +decide (disch:=first|omega|(simp only[lens]<;>omega)|decide) only [go_sem,Zd,Za,simprocAttr,t1]
  ·simp (maxSteps:=9^6) +decide (disch:=first|omega|(simp only[lens]<;>omega)|decide) only [go_sem,Zd,Za,simprocAttr]<;>rfl
theorem Z0n {h:Go.Ev.H} {c c2:C} {l:List Nat} (ll:l.length<1000000) (s:SlI h c l) (s2:SlI h c2 l):Zg K Tryz.prog 13 [.c c,.c c2] h (.w (.c (.bool true))) h:=by
 have lf:=Mq
 have lf0:=Xl
 rcases s with ⟨rfl,rfl⟩|⟨p,l1,rfl,hp⟩
 ·rcases s2 with ⟨_,rfl⟩|⟨p,l1,rfl,hp⟩
  ·
   refine Zg.goes fits Hh (by kernel_rfl) (by kernel_rfl) (by kernel_rfl) (show Tryz.f13.body=some _ from rfl) rfl ?_
   repeat (first|apply Goes.seq|apply Goes.block|apply Goes.loop|apply Goes.skip|apply Goes.exit|apply Goes.ret|((first|apply Goes.Zo|apply Goes.ops2 fits Hh Zb); · simp (maxSteps:=9^6) +decide (disch:=first|omega|(simp only[lens]<;>omega)|decide) only [go_sem,Zd,Za,simprocAttr,lf0,Zn,Yg]<;>rfl)|(apply Goes.drawn2 fits Hh Zb (by kernel_rfl); · simp (maxSteps:=9^6) +decide (disch:=first|omega|(simp only[lens]<;>omega)|decide) only [go_sem,Zd,Za,simprocAttr,drG,lf0,Zn,Yg]<;>rfl))
   simp (maxSteps:=9^6) +decide (disch:=first|omega|(simp only[lens]<;>omega)|decide) only [go_sem,Zd,Za,simprocAttr]<;>rfl
  ·simp at l1
 ·rcases s2 with ⟨rfl,rfl⟩|⟨p2,l2,rfl,hp2⟩
  ·simp at l1
  obtain⟨v,h',cc,rfl,rfl⟩:∃ v h',Zg K Tryz.prog 13 [.c (.slice p 0 l.length 1),.c (.slice p2 0 l.length 1)] h v h'∧v=.w (.c (.bool true))∧h'=h:=by
   have lp:=Zrm Hh ll hp hp2 l.length 0
   obtain⟨n,hn⟩:∃ n,l.length=n:=⟨_,rfl⟩
   simp only[hn] at lp ⊢
   have nn:((n:Int) != (n:Int))=false:=Zpt rfl
   refine Zg.Yb fits Hh (by kernel_rfl) (by kernel_rfl) (by kernel_rfl) (show Tryz.f13.body=some _ from rfl) rfl ?_
   iterate 11 (first|apply Goes.seq|apply Goes.skip|apply Goes.block|((first|apply Goes.Zo|apply Goes.ops2 fits Hh Zb); · simp (maxSteps:=9^6) +decide (disch:=first|omega|(simp only[lens]<;>omega)|decide) only [go_sem,Zd,Za,simprocAttr,lf,nn,Zn,Yg]<;>rfl))
   refine (lp _ (by omega) ?_ ?_ ?_).mono ?_
   ·simp (maxSteps:=9^6) +decide (disch:=first|omega|(simp only[lens]<;>omega)|decide) only [go_sem,Zd,Za,simprocAttr]<;>rfl
   ·simp (maxSteps:=9^6) +decide (disch:=first|omega|(simp only[lens]<;>omega)|decide) only [go_sem,Zd,Za,simprocAttr]<;>rfl
   ·simp (maxSteps:=9^6) +decide (disch:=first|omega|(simp only[lens]<;>omega)|decide) only [go_sem,Zd,Za,simprocAttr]<;>rfl
   rintro x ds' ts' h' ⟨rfl,rfl,rfl⟩
   iterate 3 (first|apply Goes.seq|apply Goes.ret|(apply Goes.ops2 fits Hh Zb; · simp (maxSteps:=9^6) +decide (disch:=first|omega|(simp only[lens]<;>omega)|decide) only [go_sem,Zd,Za,simprocAttr]<;>rfl))
   exact⟨_,_,(by simp (maxSteps:=9^6) +decide (disch:=first|omega|(simp only[lens]<;>omega)|decide) only [go_sem,Zd,Za,simprocAttr]<;>rfl),rfl,rfl⟩
  exact cc
end
theorem Zz2:K.types.get 22=some ti22:=by kernel_rfl
theorem Rm (n off len sz:Nat):Y2 K 22 (.slice n off len sz)=true:=by unfold Y2; rw[Zz2]; rfl
theorem Zzl:Y2 K 22 .snil=true:=by unfold Y2; rw[Zz2]; rfl
theorem Z1j:ti3.bytes=8:=rfl
theorem Z1h:ti3.size=1:=rfl
theorem E8 (h:Go.Ev.H) (c:C):Yy h 1 (some ti3) (some [(0,.c c)])=some (.w (.c (.slice h.next 0 1 1)),h.new (.row 1 [[c]] false)):=rfl
theorem Zz6 {h:Go.Ev.H} {n:Nat} {L:List (List C)} (x:List C) (ho:h.get n=some (.row 1 L false)) (hn:n<h.next) (hl:L.length≤4000) :
  Jj (h.new (.row 1 [x] false)) (some ti3) (.slice n 0 L.length 1) (.slice h.next 0 1 1)=some (.w (.c (.slice (h.next+1) 0 (L.length+1) 1)),((h.new (.row 1 [x] false)).del n).new (.row 1 (L++[x]) false)) :=
 Ny (M:=[x]) Z1h (by rw[H.Zf,if_neg (by omega)]; exact ho) (by rw[H.Zf,if_pos rfl]) (by simp) (by rw[Z1j]; show (L.length+1) * 8≤_; omega) (by show L.length+1≤_; omega)
theorem Zs5 {h:Go.Ev.H} (x:List C) :
  Jj (h.new (.row 1 [x] false)) (some ti3) .snil (.slice h.next 0 1 1)=some (.w (.c (.slice (h.next+1) 0 1 1)),(h.new (.row 1 [x] false)).new (.row 1 [x] false)) :=
 append_nil (M:=[x]) Z1h (by rw[H.Zf,if_pos rfl]) (by simp) (by rw[Z1j]; show 1 * 8≤_; omega) (by show 1≤_; omega)
theorem Z3s {h:Go.Ev.H} {n:Nat} {L:List (List C)} (x:List C) (ho:h.get n=some (.row 1 L false)) (hn:n<h.next) (l0:0<L.length) (hl:L.length≤4000) :
  Jj (h.new (.row 1 [x] false)) (some ti3) (.slice h.next 0 1 1) (.slice n 0 L.length 1)=some (.w (.c (.slice (h.next+1) 0 (1+L.length) 1)),((h.new (.row 1 [x] false)).del h.next).new (.row 1 ([x]++L) false)) :=
 Ny (L:=[x]) (M:=L) Z1h (by rw[H.Zf,if_pos rfl]) (by rw[H.Zf,if_neg (by omega)]; exact ho) (by intro e; rw[e] at l0; simp at l0) (by rw[Z1j]; show (1+L.length) * 8≤_; omega) (by show 1+L.length≤_; omega)
theorem Z0x {h:Go.Ev.H} (x:List C):Jj (h.new (.row 1 [x] false)) (some ti3) (.slice h.next 0 1 1) .snil=some (.w (.c (.slice h.next 0 1 1)),h.new (.row 1 [x] false)):=rfl
theorem Zkn (l:List Nat) (x:Nat):rwI l++[[.int .i64 (x:Int)]]=rwI (l++[x]):=by simp [rwI]
theorem Zw4 (l:List Nat) (x:Nat):[[C.int .i64 (x:Int)]]++rwI l=rwI (x :: l):=by simp [rwI]
end Go.Proofs.YtdkcjalmhdofcaaGreatDoor
