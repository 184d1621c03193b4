/- orphans.Remove. -/
import Derived.Test.YtdkcjalmhdofcaaGreatDoorOra
set_option linter.unusedSimpArgs false
set_option linter.unusedVariables false
set_option linter.unusedSectionVars false
set_option maxRecDepth 100000
set_option maxHeartbeats 4000000
namespace Go.Proofs.YtdkcjalmhdofcaaGreatDoor
open Go.Ev
theorem Zx8 {x i:Nat} {r:List Nat} (h:x≠i):(wo (x :: r) i).headD 0=x:=by
 rw[Zc7,if_neg h]
 rfl
section
variable (Hh:Hearts K Tryz.prog)
include Hh
variable {n q:Nat} {cr md:Int} {S T:List Nat} {V:Nat→List Nat} {m:Nat} {l:List Nat} {h:Go.Ev.H}
theorem Z3y (o:OS V l m) (m1:1≤md∧md≤3) (M:HE n q 2 24 8 40 cr md S T V h) {i:Nat} (h2:2≤i) (hm:i≤m+1) (s0:0∈S∧0 ∉ T) (s44:44∈S∧44 ∉ T) (s45:45∈S∧45 ∉ T) :
  ∃ h' V',Zg K Tryz.prog 10 [.c (.ptr (n+13) 0),.c (.int .i64 (i:Int))] h (.w (.c (.int .i64 (if i∈l then 0 else 301)))) h'∧HE n q 2 24 8 40 cr md S T V' h'∧Kp n q h h'∧OS V' (wo l i) m:=by
 obtain⟨nq,nx,n0⟩:=M.nx
 obtain⟨st,⟨kn,hs⟩,⟨dk,gl⟩,ht⟩:=M.cells
 unfold gdL gdD at gl
 have f:=fine4
 have m7:=o.m7
 have h8:i≤8:=by omega
 have dm:(md != 0)=true:=Zj8 (by omega)
 have ol:=o.len
 have oz:=o.z0
 obtain⟨hB,c,c4,MB,rB,sB⟩:=Zvx Hh o m1 M
 have nB:=rB.1
 obtain⟨hG,c7,MG,rG⟩:=Zgj Hh fine4 MB (i:Int)
 rw[o.ino i h2 hm] at c7
 have nG:=rG.1
 have sG:SlI hG c l:=sB.1.keep fun p o' n' z e=>by
  have:=sB.2 p o' n' z e
  exact rG.2 p (by omega) (by omega)
 have v9:=o.nx i
 obtain⟨v0,hv0⟩:∃ v,nxt l i=v:=⟨_,rfl⟩
 rw[hv0] at c7 v9
 have il:(O9 1 1 1 0 0 0 0 0 0 0 0 0 0 0 0 (v0:Nat)).length=16:=rfl
 have i15:(O9 1 1 1 0 0 0 0 0 0 0 0 0 0 0 0 (v0:Nat))[15]? = some (.int .u32 (v0:Int)):=rfl
 have w15:Z4 16 [O9 1 1 1 0 0 0 0 0 0 0 0 0 0 0 0 (v0:Nat)] 15 [.int .u32 0]=some [R8 0]:=rfl
 have jl0:(R8 0).length=16:=rfl
 have sl:=HE.Zy9 Hh M h2 h8
 have hPut:=fun {V:Nat→List Nat} {h:Go.Ev.H} (M:HE n q 2 24 8 40 cr md S T V h)=>Z1g Hh M (v:=0) h2 h8 (by omega) s44 s45
 obtain⟨Y,hY⟩:∃ Y,O9 1 1 1 0 0 0 0 0 0 0 0 0 0 0 0 (v0:Nat)=Y:=⟨_,rfl⟩
 obtain⟨Y0,hY0⟩:∃ Y,R8 0=Y:=⟨_,rfl⟩
 simp only[hY,hY0] at c7 il i15 w15 jl0 hPut
 obtain⟨v,h',cc,V',rfl,M',kk,o'⟩:∃ v h',Zg K Tryz.prog 10 [.c (.ptr (n+13) 0),.c (.int .i64 (i:Int))] h v h'∧∃ V',v=.w (.c (.int .i64 (if i∈l then 0 else 301)))∧HE n q 2 24 8 40 cr md S T V' h'∧Kp n q h h'∧OS V' (wo l i) m:=by
  by_cases mem:i∈l
  ·rw[if_pos mem]
   obtain⟨k,hk⟩:=List.mem_iff_getElem?.1 mem
   have kl:k<l.length:=by
    rcases Nat.lt_or_ge k l.length with h|h
    ·exact h
    ·rw[List.getElem?_eq_none h] at hk; cases hk
   have ix:ixI l i=(k:Int):=Zth hk fun j hj e=>by
    have:=(List.getElem?_inj (by omega) o.nd).1 (e.trans hk.symm)
    omega
   obtain⟨p,p1,rfl,pp⟩:∃ p,0<l.length∧c=.slice p 0 l.length 1∧hG.get p=some (.row 1 (rwI l) false):=by
    rcases sG with ⟨e,_⟩|e
    ·rw[e] at mem; simp at mem
    ·exact e
   have sb:=sB.2 p 0 _ _ rfl
   have cc10:=fun (h:Go.Ev.H) (hp:h.get p=some (.row 1 (rwI l) false))=>Zt4 Hh (h:=h) (l:=l) (by omega) (.inr ⟨p,p1,rfl,hp⟩) i
   simp only[ix] at cc10
   have om:i ∉ wo l i:=fun h=>(Zin.1 h).2 rfl
   cases k with
   | zero =>
    obtain⟨r,rfl⟩:∃ r,l=i :: r:=by
     cases l with
     | nil=>simp at hk
     | cons y r=>exact⟨r,by simp at hk; rw[hk]⟩
    have hr:wo (i :: r) i=r:=by rw[Zc7,if_pos rfl,Qw (List.nodup_cons.1 o.nd).1]
    have vr:v0=r.headD 0:=by rw[←hv0]; show (if i=i then r.headD 0 else _)=_; rw[if_pos rfl]
    have fin:OS (Qn (Gi V 0 (Eo v0)) i 0) (wo (i :: r) i) m:=by
     refine⟨Zkg o.nd,fun x hx=>o.rg x (Zin.1 hx).1,m7,?_,fun x x2 xm=>?_⟩
     ·rw[Vq h2 h8,Fu,hr,vr]
     ·have sl':(Gi V 0 (Eo v0) (Y6 24 8 40 (i - 1))).length=256:=by
       rw[Gq (by rcases Zru h2 h8 with h|h<;>rw[h]<;>decide)]; exact sl
      by_cases e:x=i
      ·subst e
       rw[Xd h2 h8 sl' (by omega),Nc om]
       rfl
      ·rw[Zc5 h2 (by omega) sl' e,Zqa,o.ino x x2 xm,Zof o.nd mem (by omega) oz x e,if_neg (Zq7 o.nd oz hk x)]
    have hL:=fun {h:Go.Ev.H} (M:HE n q 2 24 8 40 cr md S T V h)=>Zz1 Hh M (z:=(i :: r).headD 0) (u:=v0) o.hd v9 o.sup s0.1 s0.2
    obtain⟨R,hR⟩:∃ R,rwI (i :: r)=R:=⟨_,rfl⟩
    obtain⟨N,hN⟩:∃ N,(i :: r).length=N:=⟨_,rfl⟩
    rw[hR] at pp
    simp only[hR,hN] at cc10
    rw[hN] at c4
    refine Zg.Yb fits Hh (by kernel_rfl) (by kernel_rfl) (by kernel_rfl) (show Tryz.f10.body=some _ from rfl) rfl ?_
    iterate 10 (first|apply Goes.seq|apply Goes.skip|((first|apply Goes.Zo|apply Goes.ops2 fits Hh (Zj Zb (fun _ _ _ _=>Fx Hh))); · simp (maxSteps:=9^6) +decide (disch:=first|omega|(simp only[lens]<;>omega)|decide) only [go_sem,Za,simprocAttr,f,hs,stG,gl,ht,txG,dm,il,i15,w15,jl0,read1]<;>rfl))
    iterate 7 (first|apply Goes.seq|apply Goes.skip|((first|apply Goes.Zo|apply Goes.ops2 fits Hh (Zt Zb c4)); · simp (maxSteps:=9^6) +decide (disch:=first|omega|(simp only[lens]<;>omega)|decide) only [go_sem,Za,simprocAttr,Zw,f,hs,stG,gl,ht,txG,dm,il,i15,w15,jl0,read1]<;>rfl))
    iterate 7 (first|apply Goes.seq|apply Goes.skip|((first|apply Goes.Zo|apply Goes.ops2 fits Hh (Zt Zb c7)); · simp (maxSteps:=9^6) +decide (disch:=first|omega|(simp only[lens]<;>omega)|decide) only [go_sem,Za,simprocAttr,Zw,f,hs,stG,gl,ht,txG,dm,il,i15,w15,jl0,read1]<;>rfl))
    refine Goes.abs fun hA eA=>?_
    have nA:hA.next=hG.next+1:=by rw[eA]; simp only[H.Zh,H.Zc]
    have kA:∀ p,p<hG.next→hA.get p=hG.get p:=fun p hp=>by rw[eA]; (first|(simp (discharger:=omega) only [H.get_put,H.Zf,H.Zk,H.Zc,H.Zh,H.Zi,if_neg]; done)|(simp only[H.get_put,H.Zf,H.Zk,H.Zc,H.Zh,H.Zi]; (repeat' split)<;>first|rfl|(exfalso; omega)|omega))
    have iA:hA.get hG.next=some (.row 16 [Y] false):=by rw[eA]; simp (maxSteps:=9^6) +decide (disch:=first|omega|(simp only[lens]<;>omega)|decide) only [go_sem,Za,simprocAttr,il]<;>rfl
    clear eA
    have MA:=MG.keep (h2:=hA) (by omega) (fun m hm=>kA m (by have:=MG.nx.2.1; omega))
    have c10:=cc10 hA ((kA p (by omega)).trans pp)
    iterate 10 (first|apply Goes.seq|apply Goes.skip|((first|apply Goes.Zo|apply Goes.ops2 fits Hh (Zt Zb c10)); · simp (maxSteps:=9^6) +decide (disch:=first|omega|(simp only[lens]<;>omega)|decide) only [go_sem,Za,simprocAttr,Zw,f,hs,stG,gl,ht,txG,dm,il,i15,w15,jl0,iA,read1]<;>rfl))
    obtain⟨hD,c14,MD,kD⟩:=hL MA
    have nD:=kD.1
    have iD:=(kD.2 hG.next (by omega) ⟨⟨by omega,by omega,by omega,by omega,by omega⟩,by omega⟩).trans iA
    iterate 3 (first|apply Goes.seq|(apply Goes.ops2 fits Hh (Zt Zb c14); · simp (maxSteps:=9^6) +decide (disch:=first|omega|(simp only[lens]<;>omega)|decide) only [go_sem,Za,simprocAttr,Zw,f,hs,stG,gl,ht,txG,dm,il,i15,w15,jl0,iA,read1]<;>rfl))
    iterate 6 (first|apply Goes.seq|apply Goes.skip|((first|apply Goes.Zo|apply Goes.ops2 fits Hh Zb); · simp (maxSteps:=9^6) +decide (disch:=first|omega|(simp only[lens]<;>omega)|decide) only [go_sem,Za,simprocAttr,f,hs,stG,gl,ht,txG,dm,il,i15,w15,jl0,iA,iD,read1]<;>rfl))
    refine Goes.abs fun hE eE=>?_
    have nE:hE.next=hD.next:=by rw[eE]; simp only[H.Zh]
    have kE:∀ p,p<hG.next→hE.get p=hD.get p:=fun p hp=>by rw[eE]; (first|(simp (discharger:=omega) only [H.get_put,H.Zf,H.Zk,H.Zc,H.Zh,H.Zi,if_neg]; done)|(simp only[H.get_put,H.Zf,H.Zk,H.Zc,H.Zh,H.Zi]; (repeat' split)<;>first|rfl|(exfalso; omega)|omega))
    have iE:hE.get hG.next=some (.row 16 [Y0] false):=by rw[eE]; simp (maxSteps:=9^6) +decide (disch:=first|omega|(simp only[lens]<;>omega)|decide) only [go_sem,Za,simprocAttr,iD,w15]<;>rfl
    clear eE
    have ME:=MD.keep (h2:=hE) (by omega) (fun m hm=>kE m (by have:=MG.nx.2.1; omega))
    obtain⟨hF,c19,MF,kF⟩:=hPut ME
    have nF:=kF.1
    iterate 2 (first|apply Goes.ret|(apply Goes.ops2 fits Hh (Zt Zb c19); · simp (maxSteps:=9^6) +decide (disch:=first|omega|(simp only[lens]<;>omega)|decide) only [go_sem,Za,simprocAttr,Zw,f,hs,stG,gl,ht,txG,dm,il,i15,w15,jl0,iA,iD,iE,read1]<;>rfl))
    exact⟨_,_,(by simp (maxSteps:=9^6) +decide (disch:=first|omega|(simp only[lens]<;>omega)|decide) only [go_sem,Za,simprocAttr]<;>rfl),_,rfl,MF,⟨by omega,fun p hp ho=>(kF.2 p (by omega) ho).trans ((kE p (by omega)).trans ((kD.2 p (by omega) ho).trans ((kA p (by omega)).trans ((rG.2 p (by omega) ho.1.1).trans (rB.2 p hp ho.1.1)))))⟩,fin⟩
   | succ k =>
    obtain⟨y,hy⟩:∃ y,l[k]? = some y:=⟨_,List.getElem?_eq_getElem (by omega)⟩
    have ym:=List.mem_of_getElem? hy
    obtain⟨y2,ym1⟩:=o.rg y ym
    have y8:y≤8:=by omega
    have yi:y≠i:=fun e=>by
     subst e
     have:=(List.getElem?_inj (by omega) o.nd).1 (hy.trans hk.symm)
     omega
    have sly:=HE.Zy9 Hh M y2 y8
    have yv:=o.nx y
    have fin:OS (Qn (Qn V y v0) i 0) (wo l i) m:=by
     have sl':(Qn V y v0 (Y6 24 8 40 (i - 1))).length=256:=by
      unfold Qn Gi
      split
      ·rw[Qs (by have:=D7 8 (y - 1); omega)]; exact sly
      ·exact sl
     refine⟨Zkg o.nd,fun x hx=>o.rg x (Zin.1 hx).1,m7,?_,fun x x2 xm=>?_⟩
     ·rw[Vq h2 h8,Vq y2 y8,o.sup]
      cases l with
      | nil=>simp at mem
      | cons z r =>
       have:z≠i:=fun e=>by
        subst e
        have:=(List.getElem?_inj (i:=0) (by simp) o.nd).1 (show (z :: r)[0]? = (z :: r)[k+1]? from hk.symm)
        omega
       rw[Zx8 this]
       rfl
     ·by_cases e:x=i
      ·subst e
       rw[Xd h2 h8 sl' (by omega),Nc om]
       rfl
      ·rw[Zc5 h2 (by omega) sl' e,Zof o.nd mem (by omega) oz x e]
       by_cases e2:x=y
       ·subst e2
        rw[Xd y2 y8 sly v9,if_pos ((Zll o.nd oz hk hy x).2 rfl),hv0]
        rfl
       ·rw[Zc5 y2 (by omega) sly e2,if_neg (fun w=>e2 ((Zll o.nd oz hk hy x).1 w))]
        exact o.ino x x2 xm
    have hL:=fun {h:Go.Ev.H} (M:HE n q 2 24 8 40 cr md S T V h)=>Z3u Hh M (i:=y) (v:=v0) (w:=nxt l y) y2 y8 v9 yv (o.ino y y2 ym1) s44 s45
    have rk:=Zv1 hy
    have e1:((k+1:Nat):Int) - 1=(k:Int):=by omega
    have e2:(((k+1:Nat):Int) == 0)=false:=Va (by omega)
    have e3:(k:Int).toNat=k:=Int.toNat_natCast k
    have d1:=Nat.div_one k
    have d2:=Nat.mod_one k
    obtain⟨R,hR⟩:∃ R,rwI l=R:=⟨_,rfl⟩
    obtain⟨N,hN⟩:∃ N,l.length=N:=⟨_,rfl⟩
    rw[hR] at pp rk
    simp only[hR,hN] at cc10
    rw[hN] at c4 kl ol
    refine Zg.Yb fits Hh (by kernel_rfl) (by kernel_rfl) (by kernel_rfl) (show Tryz.f10.body=some _ from rfl) rfl ?_
    iterate 10 (first|apply Goes.seq|apply Goes.skip|((first|apply Goes.Zo|apply Goes.ops2 fits Hh (Zj Zb (fun _ _ _ _=>Fx Hh))); · simp (maxSteps:=9^6) +decide (disch:=first|omega|(simp only[lens]<;>omega)|decide) only [go_sem,Za,simprocAttr,f,hs,stG,gl,ht,txG,dm,il,i15,w15,jl0,e1,e2,e3,d1,d2,rk,read1]<;>rfl))
    iterate 7 (first|apply Goes.seq|apply Goes.skip|((first|apply Goes.Zo|apply Goes.ops2 fits Hh (Zt Zb c4)); · simp (maxSteps:=9^6) +decide (disch:=first|omega|(simp only[lens]<;>omega)|decide) only [go_sem,Za,simprocAttr,Zw,f,hs,stG,gl,ht,txG,dm,il,i15,w15,jl0,e1,e2,e3,d1,d2,rk,read1]<;>rfl))
    iterate 7 (first|apply Goes.seq|apply Goes.skip|((first|apply Goes.Zo|apply Goes.ops2 fits Hh (Zt Zb c7)); · simp (maxSteps:=9^6) +decide (disch:=first|omega|(simp only[lens]<;>omega)|decide) only [go_sem,Za,simprocAttr,Zw,f,hs,stG,gl,ht,txG,dm,il,i15,w15,jl0,e1,e2,e3,d1,d2,rk,read1]<;>rfl))
    refine Goes.abs fun hA eA=>?_
    have nA:hA.next=hG.next+1:=by rw[eA]; simp only[H.Zh,H.Zc]
    have kA:∀ p,p<hG.next→hA.get p=hG.get p:=fun p hp=>by rw[eA]; (first|(simp (discharger:=omega) only [H.get_put,H.Zf,H.Zk,H.Zc,H.Zh,H.Zi,if_neg]; done)|(simp only[H.get_put,H.Zf,H.Zk,H.Zc,H.Zh,H.Zi]; (repeat' split)<;>first|rfl|(exfalso; omega)|omega))
    have iA:hA.get hG.next=some (.row 16 [Y] false):=by rw[eA]; simp (maxSteps:=9^6) +decide (disch:=first|omega|(simp only[lens]<;>omega)|decide) only [go_sem,Za,simprocAttr,il]<;>rfl
    clear eA
    have MA:=MG.keep (h2:=hA) (by omega) (fun m hm=>kA m (by have:=MG.nx.2.1; omega))
    have pA:=(kA p (by omega)).trans pp
    have c10:=cc10 hA pA
    iterate 10 (first|apply Goes.seq|apply Goes.skip|((first|apply Goes.Zo|apply Goes.ops2 fits Hh (Zt Zb c10)); · simp (maxSteps:=9^6) +decide (disch:=first|omega|(simp only[lens]<;>omega)|decide) only [go_sem,Za,simprocAttr,Zw,f,hs,stG,gl,ht,txG,dm,il,i15,w15,jl0,e1,e2,e3,d1,d2,rk,iA,pA,read1]<;>rfl))
    obtain⟨hD,c15,MD,kD⟩:=hL MA
    have nD:=kD.1
    have iD:=(kD.2 hG.next (by omega) ⟨⟨by omega,by omega,by omega,by omega,by omega⟩,by omega⟩).trans iA
    iterate 3 (first|apply Goes.seq|(apply Goes.drawn2 fits Hh (Zt Zb c15) (by kernel_rfl); · simp (maxSteps:=9^6) +decide (disch:=first|omega|(simp only[lens]<;>omega)|decide) only [go_sem,Za,simprocAttr,drG,Zw,f,hs,stG,gl,ht,txG,dm,il,i15,w15,jl0,e1,e2,e3,d1,d2,rk,iA,pA,read1]<;>rfl))
    iterate 6 (first|apply Goes.seq|apply Goes.skip|((first|apply Goes.Zo|apply Goes.ops2 fits Hh Zb); · simp (maxSteps:=9^6) +decide (disch:=first|omega|(simp only[lens]<;>omega)|decide) only [go_sem,Za,simprocAttr,f,hs,stG,gl,ht,txG,dm,il,i15,w15,jl0,e1,e2,e3,d1,d2,rk,iA,pA,iD,read1]<;>rfl))
    refine Goes.abs fun hE eE=>?_
    have nE:hE.next=hD.next:=by rw[eE]; simp only[H.Zh]
    have kE:∀ p,p<hG.next→hE.get p=hD.get p:=fun p hp=>by rw[eE]; (first|(simp (discharger:=omega) only [H.get_put,H.Zf,H.Zk,H.Zc,H.Zh,H.Zi,if_neg]; done)|(simp only[H.get_put,H.Zf,H.Zk,H.Zc,H.Zh,H.Zi]; (repeat' split)<;>first|rfl|(exfalso; omega)|omega))
    have iE:hE.get hG.next=some (.row 16 [Y0] false):=by rw[eE]; simp (maxSteps:=9^6) +decide (disch:=first|omega|(simp only[lens]<;>omega)|decide) only [go_sem,Za,simprocAttr,iD,w15]<;>rfl
    clear eE
    have ME:=MD.keep (h2:=hE) (by omega) (fun m hm=>kE m (by have:=MG.nx.2.1; omega))
    obtain⟨hF,c19,MF,kF⟩:=hPut ME
    have nF:=kF.1
    iterate 2 (first|apply Goes.ret|(apply Goes.ops2 fits Hh (Zt Zb c19); · simp (maxSteps:=9^6) +decide (disch:=first|omega|(simp only[lens]<;>omega)|decide) only [go_sem,Za,simprocAttr,Zw,f,hs,stG,gl,ht,txG,dm,il,i15,w15,jl0,e1,e2,e3,d1,d2,rk,iA,pA,iD,iE,read1]<;>rfl))
    exact⟨_,_,(by simp (maxSteps:=9^6) +decide (disch:=first|omega|(simp only[lens]<;>omega)|decide) only [go_sem,Za,simprocAttr]<;>rfl),_,rfl,MF,⟨by omega,fun p hp ho=>(kF.2 p (by omega) ho).trans ((kE p (by omega)).trans ((kD.2 p (by omega) ho).trans ((kA p (by omega)).trans ((rG.2 p (by omega) ho.1.1).trans (rB.2 p hp ho.1.1)))))⟩,fin⟩
  ·rw[if_neg mem]
   have ix:=Zcv mem
   have ws:=Qw mem
   refine Zg.Yb fits Hh (by kernel_rfl) (by kernel_rfl) (by kernel_rfl) (show Tryz.f10.body=some _ from rfl) rfl ?_
   iterate 10 (first|apply Goes.seq|apply Goes.skip|((first|apply Goes.Zo|apply Goes.ops2 fits Hh (Zj Zb (fun _ _ _ _=>Fx Hh))); · simp (maxSteps:=9^6) +decide (disch:=first|omega|(simp only[lens]<;>omega)|decide) only [go_sem,Za,simprocAttr,f,hs,stG,gl,ht,txG,dm,il,read1]<;>rfl))
   iterate 7 (first|apply Goes.seq|apply Goes.skip|((first|apply Goes.Zo|apply Goes.ops2 fits Hh (Zt Zb c4)); · simp (maxSteps:=9^6) +decide (disch:=first|omega|(simp only[lens]<;>omega)|decide) only [go_sem,Za,simprocAttr,Zw,f,hs,stG,gl,ht,txG,dm,il,read1]<;>rfl))
   iterate 7 (first|apply Goes.seq|apply Goes.skip|((first|apply Goes.Zo|apply Goes.ops2 fits Hh (Zt Zb c7)); · simp (maxSteps:=9^6) +decide (disch:=first|omega|(simp only[lens]<;>omega)|decide) only [go_sem,Za,simprocAttr,Zw,f,hs,stG,gl,ht,txG,dm,il,read1]<;>rfl))
   refine Goes.abs fun hA eA=>?_
   have nA:hA.next=hG.next+1:=by rw[eA]; simp only[H.Zh,H.Zc]
   have kA:∀ p,p<hG.next→hA.get p=hG.get p:=fun p hp=>by rw[eA]; (first|(simp (discharger:=omega) only [H.get_put,H.Zf,H.Zk,H.Zc,H.Zh,H.Zi,if_neg]; done)|(simp only[H.get_put,H.Zf,H.Zk,H.Zc,H.Zh,H.Zi]; (repeat' split)<;>first|rfl|(exfalso; omega)|omega))
   clear eA
   have MA:=MG.keep (h2:=hA) (by omega) (fun m hm=>kA m (by have:=MG.nx.2.1; omega))
   have c10:=Zt4 Hh (h:=hA) (l:=l) (by omega) (sG.keep fun p o' n' z e=>kA p (by have:=sB.2 p o' n' z e; omega)) i
   rw[ix] at c10
   iterate 8 (first|apply Goes.seq|apply Goes.ret|((first|apply Goes.Zo|apply Goes.ops2 fits Hh (Zt Zb c10)); · simp (maxSteps:=9^6) +decide (disch:=first|omega|(simp only[lens]<;>omega)|decide) only [go_sem,Za,simprocAttr,Zw,f,hs,stG,gl,ht,txG,dm,il,read1]<;>rfl))
   exact⟨_,_,(by simp (maxSteps:=9^6) +decide (disch:=first|omega|(simp only[lens]<;>omega)|decide) only [go_sem,Za,simprocAttr]<;>rfl),V,rfl,MA,⟨by omega,fun p hp ho=>(kA p (by omega)).trans ((rG.2 p (by omega) ho.1.1).trans (rB.2 p hp ho.1.1))⟩,by rw[ws]; exact o⟩
 exact⟨h',V',cc,M',kk,o'⟩
end
end Go.Proofs.YtdkcjalmhdofcaaGreatDoor
