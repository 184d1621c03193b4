/- orphans.Add, orphans.follow, orphans.Remove. -/
import Derived.Test.YtdkcjalmhdofcaaGreatDoorOrl
set_option linter.unusedSimpArgs false
set_option linter.unusedVariables false
set_option linter.unusedSectionVars false
set_option maxRecDepth 100000
set_option maxHeartbeats 4000000
namespace Go.Proofs.YtdkcjalmhdofcaaGreatDoor
open Go.Ev
noncomputable def q8 (p:List Nat):Code:=piece p (Jz Tryz.f8)
noncomputable def q10 (p:List Nat):Code:=piece p (Jz Tryz.f10)
theorem rs8:Tryz.f8.results.toList=[.tmp 4]:=rfl
theorem rs10:Tryz.f10.results.toList=[.tmp 4]:=rfl
theorem rs43:Tryz.f43.results.toList=[.tmp 6]:=rfl
attribute [go_sem] rs8 rs10 rs43
def R8 (v:Nat):List C:=O9 1 1 1 0 0 0 0 0 0 0 0 0 0 0 0 (v:Nat)
def Qn (V:Nat→List Nat) (i v:Nat):Nat→List Nat:=Gi V (Y6 24 8 40 (i - 1)) (Bh (V (Y6 24 8 40 (i - 1))) (Dx 8 (i - 1)) 1 1 1 0 [0,0,0,0,0,0,0,0,0,0,0] v)
theorem Zru {i:Nat} (h2:2≤i) (h8:i≤8):Y6 24 8 40 (i - 1)=44∨Y6 24 8 40 (i - 1)=45:=by
 unfold Y6
 omega
theorem Vq {V:Nat→List Nat} {i v:Nat} (h2:2≤i) (h8:i≤8):Qn V i v 0=V 0:=Gq (by rcases Zru h2 h8 with h|h<;>rw[h]<;>decide)
theorem Z07 (v:Nat):Zet (1:Nat) (1:Nat) (0:Nat) (0:Nat) (0:Nat) (0:Nat) (0:Nat) (0:Nat) (0:Nat) (0:Nat) (0:Nat) (0:Nat) (0:Nat) (0:Nat) (v:Nat)=true:=rfl
theorem Zd1:∀ v∈[0,0,0,0,0,0,0,0,0,0,0],v<4294967296:=fun v hv=>by simp only[List.mem_cons,List.not_mem_nil,or_false,or_self] at hv; omega
theorem Xd {V:Nat→List Nat} {i v:Nat} (h2:2≤i) (h8:i≤8) (sl:(V (Y6 24 8 40 (i - 1))).length=256) (hv:v<9):gI 2 24 8 40 (Qn V i v) (i:Int)=(R8 v,0):=by
 have:=Zp5 (a:=2) (b:=24) (c:=8) (e:=40) (j:=i - 1) (k:=1) (l:=1) (g:=1) (s:=0) (p0:=0) (p1:=0) (p2:=0) (p3:=0) (p4:=0) (p5:=0) (p6:=0) (p7:=0) (p8:=0) (p9:=0) (p10:=0) (nx:=v) (V:=V) (by omega) sl (by omega) (by omega) (by omega) (by omega) Zd1 (by omega) (Z07 v)
 rw[show i - 1+1=i by omega] at this
 exact this
theorem Zc5 {V:Nat→List Nat} {i j v:Nat} (h2:2≤i) (j1:1≤j) (sl:(V (Y6 24 8 40 (i - 1))).length=256) (ne:j≠i):gI 2 24 8 40 (Qn V i v) (j:Int)=gI 2 24 8 40 V (j:Int):=by
 have:=Zjp (a:=2) (b:=24) (c:=8) (e:=40) (i:=j - 1) (j:=i - 1) (k:=1) (l:=1) (g:=1) (s:=0) (ps:=[0,0,0,0,0,0,0,0,0,0,0]) (nx:=v) (V:=V) (Yc fine4) sl (by omega) rfl
 rw[show j - 1+1=j by omega] at this
 exact this
theorem Zqa {V:Nat→List Nat} {u:Nat} (i:Int):gI 2 24 8 40 (Gi V 0 (Eo u)) i=gI 2 24 8 40 V i:=Ziy (Zeg (Yc fine4) (.inl (by omega))) i
section
variable (Hh:Hearts K Tryz.prog)
include Hh
variable {n q:Nat} {cr md:Int} {S T:List Nat} {V:Nat→List Nat} {m:Nat} {l:List Nat} {h:Go.Ev.H}
theorem HE.Zy9 (M:HE n q 2 24 8 40 cr md S T V h) {i:Nat} (h2:2≤i) (h8:i≤8):(V (Y6 24 8 40 (i - 1))).length=256:=by
 rcases Zru h2 h8 with h|h<;>rw[h]
 ·exact M.len (by kernel_rfl) (by omega)
 ·exact M.len (by kernel_rfl) (by omega)
theorem Z1g (M:HE n q 2 24 8 40 cr md S T V h) {i v:Nat} (h2:2≤i) (h8:i≤8) (hv:v<9) (s44:44∈S∧44 ∉ T) (s45:45∈S∧45 ∉ T) :
  ∃ h',Zg K Tryz.prog 40 [.c (.ptr (n+13) 0),.c (.int .i64 (i:Int)),.g (R8 v)] h (.w (.c (.int .i64 0))) h'∧HE n q 2 24 8 40 cr md S T (Qn V i v) h'∧Kp n q h h':=by
 have s:Y6 24 8 40 (i - 1)∈S∧Y6 24 8 40 (i - 1) ∉ T:=by rcases Zru h2 h8 with h|h<;>rw[h]<;>assumption
 obtain⟨h',c,M',kk⟩:=Z2g Hh fine4 M (j:=i - 1) (by omega) s.1 s.2 (k:=1) (l:=1) (g:=1) (s:=0) (p0:=0) (p1:=0) (p2:=0) (p3:=0) (p4:=0) (p5:=0) (p6:=0) (p7:=0) (p8:=0) (p9:=0) (p10:=0) (nx:=v) (by omega) (by omega) (by omega) (by omega) Zd1 (by omega) (Z07 v)
 rw[show i - 1+1=i by omega] at c
 exact⟨h',c,M',kk⟩
theorem Z32 (o:OS V l m) (m1:1≤md∧md≤3) (M:HE n q 2 24 8 40 cr md S T V h) {i:Nat} (h2:2≤i) (hm:i≤m+1) (s0:0∈S∧0 ∉ T) (s44:44∈S∧44 ∉ T) (s45:45∈S∧45 ∉ T) :
  ∃ h' V',Zg K Tryz.prog 8 [.c (.ptr (n+13) 0),.c (.int .i64 (i:Int))] h (.w (.c (.int .i64 (if i∈l then 2 else 0)))) h'∧HE n q 2 24 8 40 cr md S T V' h'∧Kp n q h h'∧OS V' (if i∈l then l else i :: l) m:=by
 obtain⟨nq,nx,n0⟩:=M.nx
 obtain⟨st,⟨kn,hs⟩,⟨dk,gl⟩,ht⟩:=M.cells
 unfold gdL gdD at gl
 have f:=fine4
 have m7:=o.m7
 have h8:i≤8:=by omega
 have dm:(md != 0)=true:=Zj8 (by omega)
 have ol:=o.len
 obtain⟨hB,c,c4,MB,rB,sB⟩:=Zvx Hh o m1 M
 have nB:=rB.1
 obtain⟨hG,c7,MG,rG⟩:=Zgj Hh fine4 MB (i:Int)
 rw[o.ino i h2 hm] at c7
 have nG:=rG.1
 have sG:SlI hG c l:=sB.1.keep fun p o' n' z e=>by
  have:=sB.2 p o' n' z e
  exact rG.2 p (by omega) (by omega)
 obtain⟨v0,hv0⟩:∃ v,nxt l i=v:=⟨_,rfl⟩
 rw[hv0] at c7
 have il:(O9 1 1 1 0 0 0 0 0 0 0 0 0 0 0 0 (v0:Nat)).length=16:=rfl
 have w15:Z4 16 [O9 1 1 1 0 0 0 0 0 0 0 0 0 0 0 0 (v0:Nat)] 15 [.int .u32 0]=some [R8 0]:=rfl
 have w16:∀ u:Nat,Z4 16 [R8 0] 15 [.int .u32 (u:Int)]=some [R8 u]:=fun u=>rfl
 have jl:∀ u,(R8 u).length=16:=fun u=>rfl
 have hd9:=o.hd
 obtain⟨u,hu⟩:∃ u,l.headD 0=u:=⟨_,rfl⟩
 rw[hu] at hd9
 have lf:=Mq
 have lf0:=Xl
 have wU:Yn .u32 (i:Int)=.int .u32 (i:Int):=Vj (by omega)
 have wH:Yn .u32 (u:Int)=.int .u32 (u:Int):=Vj (by omega)
 have hPut:=fun {h:Go.Ev.H} (M:HE n q 2 24 8 40 cr md S T V h) (u:Nat) (u9:u<9)=>Z1g Hh M h2 h8 u9 s44 s45
 have hLead:=fun {h:Go.Ev.H} (u:Nat) (M:HE n q 2 24 8 40 cr md S T (Qn V i u) h)=>Zz1 Hh M (z:=l.headD 0) (u:=i) o.hd (by omega) ((Vq h2 h8).trans o.sup) s0.1 s0.2
 have sl:=HE.Zy9 Hh M h2 h8
 have w15':=w16 u
 have jl0:=jl 0
 have jlu:=jl u
 obtain⟨Y,hY⟩:∃ Y,O9 1 1 1 0 0 0 0 0 0 0 0 0 0 0 0 (v0:Nat)=Y:=⟨_,rfl⟩
 obtain⟨Y0,hY0⟩:∃ Y,R8 0=Y:=⟨_,rfl⟩
 simp only[hY] at c7 il w15
 obtain⟨v,h',cc,V',rfl,M',kk,o'⟩:∃ v h',Zg K Tryz.prog 8 [.c (.ptr (n+13) 0),.c (.int .i64 (i:Int))] h v h'∧∃ V',v=.w (.c (.int .i64 (if i∈l then 2 else 0)))∧HE n q 2 24 8 40 cr md S T V' h'∧Kp n q h h'∧OS V' (if i∈l then l else i :: l) m:=by
  by_cases mem:i∈l
  ·rw[if_pos mem,if_pos mem]
   refine Zg.Yb fits Hh (by kernel_rfl) (by kernel_rfl) (by kernel_rfl) (show Tryz.f8.body=some _ from rfl) rfl ?_
   iterate 10 (first|apply Goes.seq|apply Goes.skip|((first|apply Goes.Zo|apply Goes.ops2 fits Hh (Zj Zb (fun _ _ _ _=>Fx Hh))); · simp (maxSteps:=9^6) +decide (disch:=first|omega|(simp only[lens]<;>omega)|decide) only [go_sem,Za,simprocAttr,f,hs,stG,gl,ht,txG,dm,il,read1]<;>rfl))
   iterate 7 (first|apply Goes.seq|apply Goes.skip|((first|apply Goes.Zo|apply Goes.ops2 fits Hh (Zt Zb c4)); · simp (maxSteps:=9^6) +decide (disch:=first|omega|(simp only[lens]<;>omega)|decide) only [go_sem,Za,simprocAttr,Zw,f,hs,stG,gl,ht,txG,dm,il,read1]<;>rfl))
   iterate 8 (first|apply Goes.seq|apply Goes.skip|((first|apply Goes.Zo|apply Goes.ops2 fits Hh (Zt Zb c7)); · simp (maxSteps:=9^6) +decide (disch:=first|omega|(simp only[lens]<;>omega)|decide) only [go_sem,Za,simprocAttr,Zw,f,hs,stG,gl,ht,txG,dm,il,read1]<;>rfl))
   refine Goes.abs fun hA eA=>?_
   have nA:hA.next=hG.next+1:=by rw[eA]; simp only[H.Zh,H.Zc]
   have kA:∀ p,p<hG.next→hA.get p=hG.get p:=fun p hp=>by rw[eA]; (first|(simp (discharger:=omega) only [H.get_put,H.Zf,H.Zk,H.Zc,H.Zh,H.Zi,if_neg]; done)|(simp only[H.get_put,H.Zf,H.Zk,H.Zc,H.Zh,H.Zi]; (repeat' split)<;>first|rfl|(exfalso; omega)|omega))
   clear eA
   have MA:=MG.keep (h2:=hA) (by omega) (fun m hm=>kA m (by have:=MG.nx.2.1; omega))
   have c10:=Zpv Hh (h:=hA) (l:=l) (by omega) (sG.keep fun p o' n' z e=>kA p (by have:=sB.2 p o' n' z e; omega)) i
   rw[decide_eq_true mem] at c10
   iterate 5 (first|apply Goes.seq|apply Goes.ret|((first|apply Goes.Zo|apply Goes.ops2 fits Hh (Zt Zb c10)); · simp (maxSteps:=9^6) +decide (disch:=first|omega|(simp only[lens]<;>omega)|decide) only [go_sem,Za,simprocAttr,Zw,f,hs,stG,gl,ht,txG,dm,il,read1]<;>rfl))
   exact⟨_,_,(by simp (maxSteps:=9^6) +decide (disch:=first|omega|(simp only[lens]<;>omega)|decide) only [go_sem,Za,simprocAttr]<;>rfl),V,rfl,MA,⟨by omega,fun p hp ho=>(kA p (by omega)).trans ((rG.2 p (by omega) ho.1.1).trans (rB.2 p hp ho.1.1))⟩,o⟩
  ·rw[if_neg mem,if_neg mem]
   have fin:∀ {h9:Go.Ev.H},HE n q 2 24 8 40 cr md S T (Gi (Qn V i u) 0 (Eo i)) h9→OS (Gi (Qn V i u) 0 (Eo i)) (i :: l) m:=fun _=>by
    refine⟨List.nodup_cons.2 ⟨mem,o.nd⟩,fun x hx=>?_,m7,Fu ..,fun x x2 xm=>?_⟩
    ·rcases List.mem_cons.1 hx with rfl|hx
     ·exact⟨h2,hm⟩
     ·exact o.rg x hx
    ·rw[Zqa,Zx4]
     by_cases e:x=i
     ·subst e
      rw[if_pos rfl,Xd h2 h8 sl hd9,hu]
      rfl
     ·rw[if_neg e,Zc5 h2 (by omega) sl e]
      exact o.ino x x2 xm
   rcases l with _|⟨x0,r⟩
   ·obtain rfl:0=u:=hu
    obtain rfl:c=.snil:=by
     rcases sG with ⟨_,e⟩|⟨p,p1,_⟩
     ·exact e
     ·simp at p1
    simp only[hY0] at w15 hPut jl0
    refine Zg.Yb fits Hh (by kernel_rfl) (by kernel_rfl) (by kernel_rfl) (show Tryz.f8.body=some _ from rfl) rfl ?_
    iterate 10 (first|apply Goes.seq|apply Goes.skip|((first|apply Goes.Zo|apply Goes.ops2 fits Hh (Zj Zb (fun _ _ _ _=>Fx Hh))); · simp (maxSteps:=9^6) +decide (disch:=first|omega|(simp only[lens]<;>omega)|decide) only [go_sem,Za,simprocAttr,f,hs,stG,gl,ht,txG,dm,il,w15,jl0,lf0,wU,read1,Zn,Yg]<;>rfl))
    iterate 7 (first|apply Goes.seq|apply Goes.skip|((first|apply Goes.Zo|apply Goes.ops2 fits Hh (Zt Zb c4)); · simp (maxSteps:=9^6) +decide (disch:=first|omega|(simp only[lens]<;>omega)|decide) only [go_sem,Za,simprocAttr,Zw,f,hs,stG,gl,ht,txG,dm,il,w15,jl0,lf0,wU,read1,Zn,Yg]<;>rfl))
    iterate 8 (first|apply Goes.seq|apply Goes.skip|((first|apply Goes.Zo|apply Goes.ops2 fits Hh (Zt Zb c7)); · simp (maxSteps:=9^6) +decide (disch:=first|omega|(simp only[lens]<;>omega)|decide) only [go_sem,Za,simprocAttr,Zw,f,hs,stG,gl,ht,txG,dm,il,w15,jl0,lf0,wU,read1,Zn,Yg]<;>rfl))
    refine Goes.abs fun hA eA=>?_
    have nA:hA.next=hG.next+1:=by rw[eA]; simp only[H.Zh,H.Zc]
    have kA:∀ p,p<hG.next→hA.get p=hG.get p:=fun p hp=>by rw[eA]; (first|(simp (discharger:=omega) only [H.get_put,H.Zf,H.Zk,H.Zc,H.Zh,H.Zi,if_neg]; done)|(simp only[H.get_put,H.Zf,H.Zk,H.Zc,H.Zh,H.Zi]; (repeat' split)<;>first|rfl|(exfalso; omega)|omega))
    have iA:hA.get hG.next=some (.row 16 [Y] false):=by rw[eA]; simp (maxSteps:=9^6) +decide (disch:=first|omega|(simp only[lens]<;>omega)|decide) only [go_sem,Za,simprocAttr,il]<;>rfl
    clear eA
    have MA:=MG.keep (h2:=hA) (by omega) (fun m hm=>kA m (by have:=MG.nx.2.1; omega))
    have c10:=Zpv Hh (h:=hA) (c:=.snil) (l:=[]) (by simp) (.inl ⟨rfl,rfl⟩) i
    rw[decide_eq_false mem] at c10
    iterate 12 (first|apply Goes.seq|apply Goes.skip|((first|apply Goes.Zo|apply Goes.ops2 fits Hh (Zt Zb c10)); · simp (maxSteps:=9^6) +decide (disch:=first|omega|(simp only[lens]<;>omega)|decide) only [go_sem,Za,simprocAttr,Zw,f,hs,stG,gl,ht,txG,dm,il,w15,jl0,lf0,wU,iA,read1,Zn,Yg]<;>rfl))
    refine Goes.abs fun hD eD=>?_
    have nD:hD.next=hG.next+1:=by rw[eD]; simp only[H.Zh,H.Zc,nA]
    have kD:∀ p,p<hG.next→hD.get p=hA.get p:=fun p hp=>by rw[eD]; (first|(simp (discharger:=omega) only [H.get_put,H.Zf,H.Zk,H.Zc,H.Zh,H.Zi,if_neg]; done)|(simp only[H.get_put,H.Zf,H.Zk,H.Zc,H.Zh,H.Zi]; (repeat' split)<;>first|rfl|(exfalso; omega)|omega))
    have iD:hD.get hG.next=some (.row 16 [Y0] false):=by rw[eD]; simp (maxSteps:=9^6) +decide (disch:=first|omega|(simp only[lens]<;>omega)|decide) only [go_sem,Za,simprocAttr,il,w15]<;>rfl
    clear eD
    have MD:=MA.keep (h2:=hD) (by omega) (fun m hm=>kD m (by have:=MG.nx.2.1; omega))
    obtain⟨hE,c15,ME,kE⟩:=hPut MD 0 (by omega)
    rw[hY0] at c15
    have nE:=kE.1
    obtain⟨hF,c18,MF,kF⟩:=hLead 0 ME
    have nF:=kF.1
    iterate 6 (first|apply Goes.seq|apply Goes.skip|((first|apply Goes.Zo|apply Goes.ops2 fits Hh (Zt Zb c15)); · simp (maxSteps:=9^6) +decide (disch:=first|omega|(simp only[lens]<;>omega)|decide) only [go_sem,Za,simprocAttr,Zw,f,hs,stG,gl,ht,txG,dm,il,w15,jl0,lf0,wU,iA,iD,read1,Zn,Yg]<;>rfl))
    iterate 2 (first|apply Goes.ret|(apply Goes.ops2 fits Hh (Zt Zb c18); · simp (maxSteps:=9^6) +decide (disch:=first|omega|(simp only[lens]<;>omega)|decide) only [go_sem,Za,simprocAttr,Zw,f,hs,stG,gl,ht,txG,dm,il,w15,jl0,lf0,wU,iA,iD,read1,Zn,Yg]<;>rfl))
    exact⟨_,_,(by simp (maxSteps:=9^6) +decide (disch:=first|omega|(simp only[lens]<;>omega)|decide) only [go_sem,Za,simprocAttr]<;>rfl),_,rfl,MF,⟨by omega,fun p hp ho=>(kF.2 p (by omega) ho).trans ((kE.2 p (by omega) ho).trans ((kD p (by omega)).trans ((kA p (by omega)).trans ((rG.2 p (by omega) ho.1.1).trans (rB.2 p hp ho.1.1)))))⟩,fin MF⟩
   ·obtain rfl:x0=u:=hu
    obtain⟨p,p1,rfl,pp⟩:∃ p,0<(x0 :: r).length∧c=.slice p 0 (x0 :: r).length 1∧hG.get p=some (.row 1 (rwI (x0 :: r)) false):=by
     rcases sG with ⟨e,_⟩|e
     ·cases e
     ·exact e
    have sb:=sB.2 p 0 _ _ rfl
    have rd:(rwI (x0 :: r))[0]? = some [.int .i64 (x0:Int)]:=rfl
    obtain⟨R,hR⟩:∃ R,rwI (x0 :: r)=R:=⟨_,rfl⟩
    obtain⟨N,hN⟩:∃ N,(x0 :: r).length=N:=⟨_,rfl⟩
    have cc10:=fun (h:Go.Ev.H) (hp:h.get p=some (.row 1 (rwI (x0 :: r)) false))=>Zpv Hh (h:=h) (l:=x0 :: r) (by omega) (.inr ⟨p,p1,rfl,hp⟩) i
    rw[decide_eq_false mem] at cc10
    rw[hR] at pp rd
    simp only[hR,hN] at cc10
    rw[hN] at c4 p1 ol
    obtain⟨Yu,hYu⟩:∃ Y,R8 x0=Y:=⟨_,rfl⟩
    simp only[hY0] at w15 w15' jl0
    rw[hYu] at w15' jlu
    refine Zg.Yb fits Hh (by kernel_rfl) (by kernel_rfl) (by kernel_rfl) (show Tryz.f8.body=some _ from rfl) rfl ?_
    iterate 10 (first|apply Goes.seq|apply Goes.skip|((first|apply Goes.Zo|apply Goes.ops2 fits Hh (Zj Zb (fun _ _ _ _=>Fx Hh))); · simp (maxSteps:=9^6) +decide (disch:=first|omega|(simp only[lens]<;>omega)|decide) only [go_sem,Za,simprocAttr,f,hs,stG,gl,ht,txG,dm,il,w15,w15',jl0,jlu,lf,rd,wU,wH,read1,Zn,Yg]<;>rfl))
    iterate 7 (first|apply Goes.seq|apply Goes.skip|((first|apply Goes.Zo|apply Goes.ops2 fits Hh (Zt Zb c4)); · simp (maxSteps:=9^6) +decide (disch:=first|omega|(simp only[lens]<;>omega)|decide) only [go_sem,Za,simprocAttr,Zw,f,hs,stG,gl,ht,txG,dm,il,w15,w15',jl0,jlu,lf,rd,wU,wH,read1,Zn,Yg]<;>rfl))
    iterate 8 (first|apply Goes.seq|apply Goes.skip|((first|apply Goes.Zo|apply Goes.ops2 fits Hh (Zt Zb c7)); · simp (maxSteps:=9^6) +decide (disch:=first|omega|(simp only[lens]<;>omega)|decide) only [go_sem,Za,simprocAttr,Zw,f,hs,stG,gl,ht,txG,dm,il,w15,w15',jl0,jlu,lf,rd,wU,wH,read1,Zn,Yg]<;>rfl))
    refine Goes.abs fun hA eA=>?_
    have nA:hA.next=hG.next+1:=by rw[eA]; simp only[H.Zh,H.Zc]
    have kA:∀ p,p<hG.next→hA.get p=hG.get p:=fun p hp=>by rw[eA]; (first|(simp (discharger:=omega) only [H.get_put,H.Zf,H.Zk,H.Zc,H.Zh,H.Zi,if_neg]; done)|(simp only[H.get_put,H.Zf,H.Zk,H.Zc,H.Zh,H.Zi]; (repeat' split)<;>first|rfl|(exfalso; omega)|omega))
    have iA:hA.get hG.next=some (.row 16 [Y] false):=by rw[eA]; simp (maxSteps:=9^6) +decide (disch:=first|omega|(simp only[lens]<;>omega)|decide) only [go_sem,Za,simprocAttr,il]<;>rfl
    clear eA
    have MA:=MG.keep (h2:=hA) (by omega) (fun m hm=>kA m (by have:=MG.nx.2.1; omega))
    have pA:=(kA p (by omega)).trans pp
    have c10:=cc10 hA pA
    iterate 12 (first|apply Goes.seq|apply Goes.skip|((first|apply Goes.Zo|apply Goes.ops2 fits Hh (Zt Zb c10)); · simp (maxSteps:=9^6) +decide (disch:=first|omega|(simp only[lens]<;>omega)|decide) only [go_sem,Za,simprocAttr,Zw,f,hs,stG,gl,ht,txG,dm,il,w15,w15',jl0,jlu,lf,rd,wU,wH,iA,pA,read1,Zn,Yg]<;>rfl))
    refine Goes.abs fun hD eD=>?_
    have nD:hD.next=hG.next+1:=by rw[eD]; simp only[H.Zh,H.Zc,nA]
    have kD:∀ p,p<hG.next→hD.get p=hA.get p:=fun p hp=>by rw[eD]; (first|(simp (discharger:=omega) only [H.get_put,H.Zf,H.Zk,H.Zc,H.Zh,H.Zi,if_neg]; done)|(simp only[H.get_put,H.Zf,H.Zk,H.Zc,H.Zh,H.Zi]; (repeat' split)<;>first|rfl|(exfalso; omega)|omega))
    have iD:hD.get hG.next=some (.row 16 [Yu] false):=by rw[eD]; simp (maxSteps:=9^6) +decide (disch:=first|omega|(simp only[lens]<;>omega)|decide) only [go_sem,Za,simprocAttr,il,w15,w15']<;>rfl
    clear eD
    have MD:=MA.keep (h2:=hD) (by omega) (fun m hm=>kD m (by have:=MG.nx.2.1; omega))
    obtain⟨hE,c15,ME,kE⟩:=hPut MD x0 hd9
    rw[hYu] at c15
    have nE:=kE.1
    obtain⟨hF,c18,MF,kF⟩:=hLead x0 ME
    have nF:=kF.1
    iterate 6 (first|apply Goes.seq|apply Goes.skip|((first|apply Goes.Zo|apply Goes.ops2 fits Hh (Zt Zb c15)); · simp (maxSteps:=9^6) +decide (disch:=first|omega|(simp only[lens]<;>omega)|decide) only [go_sem,Za,simprocAttr,Zw,f,hs,stG,gl,ht,txG,dm,il,w15,w15',jl0,jlu,lf,rd,wU,wH,iA,pA,iD,read1,Zn,Yg]<;>rfl))
    iterate 2 (first|apply Goes.ret|(apply Goes.ops2 fits Hh (Zt Zb c18); · simp (maxSteps:=9^6) +decide (disch:=first|omega|(simp only[lens]<;>omega)|decide) only [go_sem,Za,simprocAttr,Zw,f,hs,stG,gl,ht,txG,dm,il,w15,w15',jl0,jlu,lf,rd,wU,wH,iA,pA,iD,read1,Zn,Yg]<;>rfl))
    exact⟨_,_,(by simp (maxSteps:=9^6) +decide (disch:=first|omega|(simp only[lens]<;>omega)|decide) only [go_sem,Za,simprocAttr]<;>rfl),_,rfl,MF,⟨by omega,fun p hp ho=>(kF.2 p (by omega) ho).trans ((kE.2 p (by omega) ho).trans ((kD p (by omega)).trans ((kA p (by omega)).trans ((rG.2 p (by omega) ho.1.1).trans (rB.2 p hp ho.1.1)))))⟩,fin MF⟩
 exact⟨h',V',cc,M',kk,o'⟩
theorem Z3u (M:HE n q 2 24 8 40 cr md S T V h) {i v w:Nat} (h2:2≤i) (h8:i≤8) (hv:v<9) (hw:w<9) (g:gI 2 24 8 40 V (i:Int)=(R8 w,0)) (s44:44∈S∧44 ∉ T) (s45:45∈S∧45 ∉ T) :
  ∃ h',Zg K Tryz.prog 43 [.c (.ptr (n+13) 0),.c (.int .i64 (i:Int)),.c (.int .u32 (v:Int))] h (.w (.c (.int .i64 0))) h'∧HE n q 2 24 8 40 cr md S T (Qn V i v) h'∧Kp n q h h':=by
 obtain⟨nq,nx,n0⟩:=M.nx
 obtain⟨hG,c1,MG,rG⟩:=Zgj Hh fine4 M (i:Int)
 rw[g] at c1
 have nG:=rG.1
 have il:(R8 w).length=16:=rfl
 have jl:(R8 v).length=16:=rfl
 have w15:Z4 16 [R8 w] 15 [.int .u32 (v:Int)]=some [R8 v]:=rfl
 have hP:=fun {h:Go.Ev.H} (M:HE n q 2 24 8 40 cr md S T V h)=>Z1g Hh M h2 h8 hv s44 s45
 obtain⟨Y,hY⟩:∃ Y,R8 w=Y:=⟨_,rfl⟩
 obtain⟨Z,hZ⟩:∃ Y,R8 v=Y:=⟨_,rfl⟩
 simp only[hY,hZ] at c1 il jl w15 hP
 obtain⟨v',h',cc,rfl,M',kk⟩:∃ v' h',Zg K Tryz.prog 43 [.c (.ptr (n+13) 0),.c (.int .i64 (i:Int)),.c (.int .u32 (v:Int))] h v' h'∧v'=.w (.c (.int .i64 0))∧HE n q 2 24 8 40 cr md S T (Qn V i v) h'∧Kp n q h h':=by
  refine Zg.Yb fits Hh (by kernel_rfl) (by kernel_rfl) (by kernel_rfl) (show Tryz.f43.body=some _ from rfl) rfl ?_
  iterate 3 (first|apply Goes.seq|(apply Goes.ops2 fits Hh Zb; · simp (maxSteps:=9^6) +decide (disch:=first|omega|(simp only[lens]<;>omega)|decide) only [go_sem,Za,simprocAttr,il,jl,w15,read1]<;>rfl))
  iterate 9 (first|apply Goes.seq|apply Goes.skip|((first|apply Goes.Zo|apply Goes.ops2 fits Hh (Zt Zb c1)); · simp (maxSteps:=9^6) +decide (disch:=first|omega|(simp only[lens]<;>omega)|decide) only [go_sem,Za,simprocAttr,Zw,il,jl,w15,read1]<;>rfl))
  refine Goes.abs fun hD eD=>?_
  have nD:hD.next=hG.next+1:=by rw[eD]; simp only[H.Zh,H.Zc]
  have kD:∀ p,p<hG.next→hD.get p=hG.get p:=fun p hp=>by rw[eD]; (first|(simp (discharger:=omega) only [H.get_put,H.Zf,H.Zk,H.Zc,H.Zh,H.Zi,if_neg]; done)|(simp only[H.get_put,H.Zf,H.Zk,H.Zc,H.Zh,H.Zi]; (repeat' split)<;>first|rfl|(exfalso; omega)|omega))
  have iD:hD.get hG.next=some (.row 16 [Z] false):=by rw[eD]; simp (maxSteps:=9^6) +decide (disch:=first|omega|(simp only[lens]<;>omega)|decide) only [go_sem,Za,simprocAttr,il,w15]<;>rfl
  clear eD
  have MD:=MG.keep (h2:=hD) (by omega) (fun m hm=>kD m (by have:=MG.nx.2.1; omega))
  obtain⟨hE,c5,ME,kE⟩:=hP MD
  have nE:=kE.1
  iterate 2 (first|apply Goes.ret|(apply Goes.ops2 fits Hh (Zt Zb c5); · simp (maxSteps:=9^6) +decide (disch:=first|omega|(simp only[lens]<;>omega)|decide) only [go_sem,Za,simprocAttr,Zw,il,jl,w15,iD,read1]<;>rfl))
  exact⟨_,_,(by simp (maxSteps:=9^6) +decide (disch:=first|omega|(simp only[lens]<;>omega)|decide) only [go_sem,Za,simprocAttr]<;>rfl),rfl,ME,(by omega),fun p hp ho=>(kE.2 p (by omega) ho).trans ((kD p (by omega)).trans (rG.2 p hp ho.1.1))⟩
 exact⟨h',cc,M',kk⟩
end
end Go.Proofs.YtdkcjalmhdofcaaGreatDoor
