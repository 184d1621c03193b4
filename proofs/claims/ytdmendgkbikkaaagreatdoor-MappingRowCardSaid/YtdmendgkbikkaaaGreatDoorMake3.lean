/- quernref21.Make of a geometry that may be, on the evaluator's level. -/
import Derived.Test.YtdmendgkbikkaaaGreatDoorRGeo
import Derived.Test.YtdmendgkbikkaaaGreatDoorEvC
set_option linter.unusedSimpArgs false
set_option linter.unusedVariables false
set_option linter.unusedSectionVars false
set_option maxRecDepth 100000
namespace Go.Proofs.YtdmendgkbikkaaaGreatDoor
open Go.Ev
noncomputable def q48 (p:List Nat):Code:=piece p (Ut Tryz.f48)
theorem Zay:q48 [1,1,1,1,1,0,1,2]=.loop (q48 [1,1,1,1,1,0,1,2,2]):=by kernel_rfl
theorem Gx:q48 [1,1,1,1,1,1,1,1,0,1,2]=.loop (q48 [1,1,1,1,1,1,1,1,0,1,2,2]):=by kernel_rfl
theorem Sq:q48 [1,1,1,1,1,1,1,1,0,1,2,2,1,0,2,1,0,1]=.block 4 (q48 [1,1,1,1,1,1,1,1,0,1,2,2,1,0,2,1,0,1,2]):=by kernel_rfl
theorem Jc:q48 [1,1,1,1,1,1,1,1,0,1,2,2,1,0,2,1,0,1,2]=.loop (q48 [1,1,1,1,1,1,1,1,0,1,2,2,1,0,2,1,0,1,2,2]):=by kernel_rfl
def Ub (sz ino:Nat) (k a:Int) (i:Nat):Bool:=if k=4 then (decide (i<2+ino / 4) || decide (sz≤i)) else if k=5 then (decide (ino≤i) || (decide (i=0)&&decide (a=0))) else false
def upto (f:Nat→Bool) (i:Nat):Nat→Bool:=fun j=>decide (j<i)&&f j
theorem Vd (f:Nat→Bool) (i:Nat) (hi:i<2048) (v:Bool) (hv:v=f i):Z9 1 (J3 (upto f i)) i [.bool v]=some (J3 (upto f (i+1))):=by
 subst hv
 have hx:(J3 (upto f i))[i]? = some [.bool (upto f i i)]:=by simp [J3,hi]
 rw[Zke hx]
 congr 1
 refine List.ext_getElem (by simp [J3]) fun t h1 h2=>?_
 simp only[List.getElem_set]
 simp only[J3,List.getElem_map,List.getElem_range,upto]
 by_cases e:i=t
 ·subst e; simp
 ·rw[if_neg e]
  congr 3
  simp only[decide_eq_decide]
  omega
theorem Zr9 (f:Nat→Bool) (i:Nat) (hv:f i=false):J3 (upto f i)=J3 (upto f (i+1)):=by
 unfold J3
 refine List.map_congr_left fun t _=>?_
 simp only[upto]
 by_cases e:t=i
 ·subst e; simp [hv]
 ·congr 3
  simp only[decide_eq_decide]
  omega
section
variable (Hh:Hearts K Tryz.prog)
include Hh
theorem mk4 {gr sz ino jr:Nat} (F:Fine gr sz ino jr) (p nA nb b:Nat) (hnp:nb≠p) (hnA:nb≠nA) (L:List (List C)) (roA:Bool) (kd a c d:Int) (hx':L[b]? = some (thing kd a c d)) (hlen:L.length≤4000):∀ (k i:Nat) (ts:Zw) (h:Go.Ev.H),i+k=2048→h.get p=some (.row 4 [[.int .i64 gr,.int .i64 sz,.int .i64 ino,.int .i64 jr]] false)→h.get nA=some (.row 4 L roA)→h.get nb=some (.row 1 (J3 (upto (Ub sz ino kd a) i)) false) →
  Zi ts 1=.w (.c (.ptr p 0))→Zi ts 4=.w (.c (.slice nA 0 L.length 4))→Zi ts 8=.w (.c (.int .i64 b))→Zi ts 9=.w (.c (.slice nb 0 2048 1))→Zi ts 10=.w (.c (.int .i64 i))→nb<h.next →
  Ya 159 none (q48 [1,1,1,1,1,1,1,1,0,1,2,2,1,0,2,1,0,1,2]) [] ts h fun x ds' ts' h'=>x=.exit 4∧ds'=[]∧h'.next=h.next∧h'.get nb=some (.row 1 (J3 (Ub sz ino kd a)) false)∧(∀ m,m≠nb→h'.get m=h.get m)∧∀ s,s≤9→Zi ts' s=Zi ts s:=by
 obtain⟨g1,g2,g3,g4,g5,g6,g7,g8,g9,g10,g11⟩:=F
 intro k
 induction k with
 | zero =>
  intro i ts h hi hp hA hb h1 h4 h8 h9 h10 hnb'
  have ei:i=2048:=by omega
  subst ei
  have eb:J3 (upto (Ub sz ino kd a) 2048)=J3 (Ub sz ino kd a):=by
   unfold J3
   refine List.map_congr_left fun t ht=>?_
   have:=List.mem_range.1 ht
   simp [upto,this]
  rw[eb] at hb
  iterate 6 (first|apply Zp|apply Oe|apply Yt|((first|apply Goes.Zn|apply Goes.ops2 fits Hh Za); · simp (decide:=true) only [go_sem,Zl,H.get_put,H.Zd,Ze,Zz,reduceIte,Nat.reduceAdd,Nat.reduceMul,Zx,Z0,asC,Zb,Ye,Z7,h10]<;>rfl))
  refine⟨rfl,rfl,rfl,hb,fun _ _=>rfl,fun s hs=>?_⟩
  simp (decide:=true) only [Y6 hs]
 | succ k ih =>
  intro i ts h hi hp hA hb h1 h4 h8 h9 h10 hnb'
  have hbl:b<L.length:=by
   rcases Nat.lt_or_ge b L.length with h2|h2
   ·exact h2
   ·rw[List.getElem?_eq_none h2] at hx'; cases hx'
  have r0:read1 4 L (b * 4)=some (.int .u8 kd):=Ee (sz:=4) (j:=0) (by omega) hx'
  have r1:read1 4 L (b * 4+1)=some (.int .i64 a):=Ee (sz:=4) (j:=1) (by omega) hx'
  have c1:decide ((i:Int)<2048)=true:=decide_eq_true (by omega)
  have b1:Nat.blt b L.length=true:=U6 hbl
  have b2:Nat.blt i 2048=true:=U6 (by omega)
  have q1:F9 .i64 (ino:Int) 4=some (.int .i64 ((ino / 4:Nat):Int)):=by
   show some (Yq .i64 ((ino:Int).tdiv 4))=_
   rw[show (ino:Int).tdiv 4=((ino / 4:Nat):Int) from rfl,wrap64 (by omega) (by omega)]
  have w0:Yq .i64 (2+((ino / 4:Nat):Int))=.int .i64 ((2+ino / 4:Nat):Int):=by rw[wrap64 (by omega) (by omega)]; congr 1
  have w1:Yq .i64 ((i:Int)+1)=.int .i64 ((i+1:Nat):Int):=by rw[wrap64 (by omega) (by omega)]; congr 1
  have hn1:nA≠nb:=Ne.symm hnA
  by_cases k4:kd=4
  ·have e4:(kd == 4)=true:=by rw[k4]; rfl
   have e5:(kd == 5)=false:=by rw[k4]; rfl
   by_cases hi1:i<2+ino / 4
   ·have c2:decide ((i:Int)<((2+ino / 4:Nat):Int))=true:=decide_eq_true (by omega)
    have wr:=Vd (Ub sz ino kd a) i (by omega) true (by simp [Ub,k4,hi1])
    iterate 18 (first|apply Zp|apply Z6|apply Yk|apply Yt|((first|apply Goes.Zn|apply Goes.ops2 fits Hh Za); · simp (decide:=true) only [go_sem,Zl,H.get_put,H.Zd,Ze,Zz,reduceIte,Nat.reduceAdd,Nat.reduceMul,Zx,Z0,asC,Zb,Ye,Z7,h1,h4,h8,h9,h10,hp,hA,hb,hn1,c1,b1,b2,r0,r1,q1,w0,w1,wr,e4,e5,c2,Q7,Fj,geo1,geo2,Lf,Lg,Y0,Jl,Jm,J9,Nh,Vh,Xc,Zc4,Ji,Oq,Oj,Ei,Ng,Tw,cW,Nat.zero_add,Nat.add_zero,Nat.mul_one,Nat.beq_refl]<;>rfl))
    show Ya 159 none (.loop (q48 [1,1,1,1,1,1,1,1,0,1,2,2,1,0,2,1,0,1,2,2])) _ _ _ _
    rw[←Jc]
    refine (ih (i+1) _ _ (by omega) ?_ ?_ ?_ ?_ ?_ ?_ ?_ ?_ ?_).mono ?_
    ·rw[H.get_put,if_neg (Ne.symm hnp)]; exact hp
    ·rw[H.get_put,if_neg (Ne.symm hnA)]; exact hA
    ·rw[H.get_put,if_pos rfl]
    ·simp (decide:=true) only [Zb,reduceIte,h1]
    ·simp (decide:=true) only [Zb,reduceIte,h4]
    ·simp (decide:=true) only [Zb,reduceIte,h8]
    ·simp (decide:=true) only [Zb,reduceIte,h9]
    ·simp (decide:=true) only [Zb,reduceIte]
    ·exact hnb'
    ·rintro x ds' ts' h' ⟨e1,e2,e3,e4,e5,e6⟩
     refine⟨e1,e2,e3,e4,fun m hm=>?_,fun s hs=>?_⟩
     ·rw[e5 m hm,H.get_put,if_neg hm]
     ·rw[e6 s hs]
      simp (decide:=true) only [Y6 hs]
   ·have c2:decide ((i:Int)<((2+ino / 4:Nat):Int))=false:=decide_eq_false (by omega)
    have wr:=Vd (Ub sz ino kd a) i (by omega) (decide ((i:Int) ≥ (sz:Int))) (by simp [Ub,k4,hi1])
    iterate 18 (first|apply Zp|apply Z6|apply Yk|apply Yt|((first|apply Goes.Zn|apply Goes.ops2 fits Hh Za); · simp (decide:=true) only [go_sem,Zl,H.get_put,H.Zd,Ze,Zz,reduceIte,Nat.reduceAdd,Nat.reduceMul,Zx,Z0,asC,Zb,Ye,Z7,h1,h4,h8,h9,h10,hp,hA,hb,hn1,c1,b1,b2,r0,r1,q1,w0,w1,wr,e4,e5,c2,Q7,Fj,geo1,geo2,Lf,Lg,Y0,Jl,Jm,J9,Nh,Vh,Xc,Zc4,Ji,Oq,Oj,Ei,Ng,Tw,cW,Nat.zero_add,Nat.add_zero,Nat.mul_one,Nat.beq_refl]<;>rfl))
    show Ya 159 none (.loop (q48 [1,1,1,1,1,1,1,1,0,1,2,2,1,0,2,1,0,1,2,2])) _ _ _ _
    rw[←Jc]
    refine (ih (i+1) _ _ (by omega) ?_ ?_ ?_ ?_ ?_ ?_ ?_ ?_ ?_).mono ?_
    ·rw[H.get_put,if_neg (Ne.symm hnp)]; exact hp
    ·rw[H.get_put,if_neg (Ne.symm hnA)]; exact hA
    ·rw[H.get_put,if_pos rfl]
    ·simp (decide:=true) only [Zb,reduceIte,h1]
    ·simp (decide:=true) only [Zb,reduceIte,h4]
    ·simp (decide:=true) only [Zb,reduceIte,h8]
    ·simp (decide:=true) only [Zb,reduceIte,h9]
    ·simp (decide:=true) only [Zb,reduceIte]
    ·exact hnb'
    ·rintro x ds' ts' h' ⟨e1,e2,e3,e4,e5,e6⟩
     refine⟨e1,e2,e3,e4,fun m hm=>?_,fun s hs=>?_⟩
     ·rw[e5 m hm,H.get_put,if_neg hm]
     ·rw[e6 s hs]
      simp (decide:=true) only [Y6 hs]
  ·have e4:(kd == 4)=false:=by simpa using k4
   by_cases k5:kd=5
   ·have e5:(kd == 5)=true:=by rw[k5]; rfl
    by_cases hi1:ino≤i
    ·have c2:decide ((i:Int) ≥ (ino:Int))=true:=decide_eq_true (by omega)
     have wr:=Vd (Ub sz ino kd a) i (by omega) true (by simp [Ub,k5,hi1])
     iterate 18 (first|apply Zp|apply Z6|apply Yk|apply Yt|((first|apply Goes.Zn|apply Goes.ops2 fits Hh Za); · simp (decide:=true) only [go_sem,Zl,H.get_put,H.Zd,Ze,Zz,reduceIte,Nat.reduceAdd,Nat.reduceMul,Zx,Z0,asC,Zb,Ye,Z7,h1,h4,h8,h9,h10,hp,hA,hb,hn1,c1,b1,b2,r0,r1,q1,w0,w1,wr,e4,e5,c2,Q7,Fj,geo1,geo2,Lf,Lg,Y0,Jl,Jm,J9,Nh,Vh,Xc,Zc4,Ji,Oq,Oj,Ei,Ng,Tw,cW,Nat.zero_add,Nat.add_zero,Nat.mul_one,Nat.beq_refl]<;>rfl))
     show Ya 159 none (.loop (q48 [1,1,1,1,1,1,1,1,0,1,2,2,1,0,2,1,0,1,2,2])) _ _ _ _
     rw[←Jc]
     refine (ih (i+1) _ _ (by omega) ?_ ?_ ?_ ?_ ?_ ?_ ?_ ?_ ?_).mono ?_
     ·rw[H.get_put,if_neg (Ne.symm hnp)]; exact hp
     ·rw[H.get_put,if_neg (Ne.symm hnA)]; exact hA
     ·rw[H.get_put,if_pos rfl]
     ·simp (decide:=true) only [Zb,reduceIte,h1]
     ·simp (decide:=true) only [Zb,reduceIte,h4]
     ·simp (decide:=true) only [Zb,reduceIte,h8]
     ·simp (decide:=true) only [Zb,reduceIte,h9]
     ·simp (decide:=true) only [Zb,reduceIte]
     ·exact hnb'
     ·rintro x ds' ts' h' ⟨e1,e2,e3,e4,e5,e6⟩
      refine⟨e1,e2,e3,e4,fun m hm=>?_,fun s hs=>?_⟩
      ·rw[e5 m hm,H.get_put,if_neg hm]
      ·rw[e6 s hs]
       simp (decide:=true) only [Y6 hs]
    ·have c2:decide ((i:Int) ≥ (ino:Int))=false:=decide_eq_false (by omega)
     by_cases hi0:i=0
     ·have c3:(((i:Nat):Int) == 0)=true:=by rw[hi0]; rfl
      have wr:=Vd (Ub sz ino kd a) i (by omega) (a == 0) (by
       rw[Ub,if_neg k4,if_pos k5,decide_eq_false hi1,decide_eq_true hi0]
       rfl)
      iterate 18 (first|apply Zp|apply Z6|apply Yk|apply Yt|((first|apply Goes.Zn|apply Goes.ops2 fits Hh Za); · simp (decide:=true) only [go_sem,Zl,H.get_put,H.Zd,Ze,Zz,reduceIte,Nat.reduceAdd,Nat.reduceMul,Zx,Z0,asC,Zb,Ye,Z7,h1,h4,h8,h9,h10,hp,hA,hb,hn1,c1,b1,b2,r0,r1,q1,w0,w1,wr,e4,e5,c2,c3,Q7,Fj,geo1,geo2,Lf,Lg,Y0,Jl,Jm,J9,Nh,Vh,Xc,Zc4,Ji,Oq,Oj,Ei,Ng,Tw,cW,Nat.zero_add,Nat.add_zero,Nat.mul_one,Nat.beq_refl]<;>rfl))
      show Ya 159 none (.loop (q48 [1,1,1,1,1,1,1,1,0,1,2,2,1,0,2,1,0,1,2,2])) _ _ _ _
      rw[←Jc]
      refine (ih (i+1) _ _ (by omega) ?_ ?_ ?_ ?_ ?_ ?_ ?_ ?_ ?_).mono ?_
      ·rw[H.get_put,if_neg (Ne.symm hnp)]; exact hp
      ·rw[H.get_put,if_neg (Ne.symm hnA)]; exact hA
      ·rw[H.get_put,if_pos rfl]
      ·simp (decide:=true) only [Zb,reduceIte,h1]
      ·simp (decide:=true) only [Zb,reduceIte,h4]
      ·simp (decide:=true) only [Zb,reduceIte,h8]
      ·simp (decide:=true) only [Zb,reduceIte,h9]
      ·simp (decide:=true) only [Zb,reduceIte]
      ·exact hnb'
      ·rintro x ds' ts' h' ⟨e1,e2,e3,e4,e5,e6⟩
       refine⟨e1,e2,e3,e4,fun m hm=>?_,fun s hs=>?_⟩
       ·rw[e5 m hm,H.get_put,if_neg hm]
       ·rw[e6 s hs]
        simp (decide:=true) only [Y6 hs]
     ·have c3:(((i:Nat):Int) == 0)=false:=by simpa using hi0
      have wr:=Vd (Ub sz ino kd a) i (by omega) false (by simp [Ub,k5,hi1,hi0])
      iterate 18 (first|apply Zp|apply Z6|apply Yk|apply Yt|((first|apply Goes.Zn|apply Goes.ops2 fits Hh Za); · simp (decide:=true) only [go_sem,Zl,H.get_put,H.Zd,Ze,Zz,reduceIte,Nat.reduceAdd,Nat.reduceMul,Zx,Z0,asC,Zb,Ye,Z7,h1,h4,h8,h9,h10,hp,hA,hb,hn1,c1,b1,b2,r0,r1,q1,w0,w1,wr,e4,e5,c2,c3,Q7,Fj,geo1,geo2,Lf,Lg,Y0,Jl,Jm,J9,Nh,Vh,Xc,Zc4,Ji,Oq,Oj,Ei,Ng,Tw,cW,Nat.zero_add,Nat.add_zero,Nat.mul_one,Nat.beq_refl]<;>rfl))
      show Ya 159 none (.loop (q48 [1,1,1,1,1,1,1,1,0,1,2,2,1,0,2,1,0,1,2,2])) _ _ _ _
      rw[←Jc]
      refine (ih (i+1) _ _ (by omega) ?_ ?_ ?_ ?_ ?_ ?_ ?_ ?_ ?_).mono ?_
      ·rw[H.get_put,if_neg (Ne.symm hnp)]; exact hp
      ·rw[H.get_put,if_neg (Ne.symm hnA)]; exact hA
      ·rw[H.get_put,if_pos rfl]
      ·simp (decide:=true) only [Zb,reduceIte,h1]
      ·simp (decide:=true) only [Zb,reduceIte,h4]
      ·simp (decide:=true) only [Zb,reduceIte,h8]
      ·simp (decide:=true) only [Zb,reduceIte,h9]
      ·simp (decide:=true) only [Zb,reduceIte]
      ·exact hnb'
      ·rintro x ds' ts' h' ⟨e1,e2,e3,e4,e5,e6⟩
       refine⟨e1,e2,e3,e4,fun m hm=>?_,fun s hs=>?_⟩
       ·rw[e5 m hm,H.get_put,if_neg hm]
       ·rw[e6 s hs]
        simp (decide:=true) only [Y6 hs]
   ·have e5:(kd == 5)=false:=by simpa using k5
    have hskip:h.get nb=some (.row 1 (J3 (upto (Ub sz ino kd a) (i+1))) false):=by rw[←Zr9 _ _ (by simp [Ub,k4,k5])]; exact hb
    have wr:=hskip
    iterate 18 (first|apply Zp|apply Z6|apply Yk|apply Yt|((first|apply Goes.Zn|apply Goes.ops2 fits Hh Za); · simp (decide:=true) only [go_sem,Zl,H.get_put,H.Zd,Ze,Zz,reduceIte,Nat.reduceAdd,Nat.reduceMul,Zx,Z0,asC,Zb,Ye,Z7,h1,h4,h8,h9,h10,hp,hA,hb,hn1,c1,b1,b2,r0,r1,q1,w0,w1,wr,e4,e5,Q7,Fj,geo1,geo2,Lf,Lg,Y0,Jl,Jm,J9,Nh,Vh,Xc,Zc4,Ji,Oq,Oj,Ei,Ng,Tw,cW,Nat.zero_add,Nat.add_zero,Nat.mul_one,Nat.beq_refl]<;>rfl))
    show Ya 159 none (.loop (q48 [1,1,1,1,1,1,1,1,0,1,2,2,1,0,2,1,0,1,2,2])) _ _ _ _
    rw[←Jc]
    refine (ih (i+1) _ _ (by omega) ?_ ?_ ?_ ?_ ?_ ?_ ?_ ?_ ?_).mono ?_
    ·exact hp
    ·exact hA
    ·exact hskip
    ·simp (decide:=true) only [Zb,reduceIte,h1]
    ·simp (decide:=true) only [Zb,reduceIte,h4]
    ·simp (decide:=true) only [Zb,reduceIte,h8]
    ·simp (decide:=true) only [Zb,reduceIte,h9]
    ·simp (decide:=true) only [Zb,reduceIte]
    ·exact hnb'
    ·rintro x ds' ts' h' ⟨e1,e2,e3,e4,e5,e6⟩
     refine⟨e1,e2,e3,e4,e5,fun s hs=>?_⟩
     rw[e6 s hs]
     simp (decide:=true) only [Y6 hs]
end
def Rx:List C:=List.replicate 256 (.int .u8 0)
def Zlc (S D Hd I:List C) (sz ino b:Nat) (x:List C):List C:=match x with
 | [.int _ k,.int _ a,_,.int _ d]=>if b=0 then S else if b=1 then D else if b=2 then Hd else if d=1 then I else pack (Ub sz ino k a)
 | _=>[]
def Gv (S D Hd I:List C) (sz ino:Nat) (L:List (List C)) (i:Nat):List (List C):=(List.range L.length).map fun t=>if t<i then Zlc S D Hd I sz ino t (L[t]?.getD []) else Rx
theorem Zwv (S D Hd I:List C) (sz ino:Nat) (L:List (List C)) (i:Nat):(Gv S D Hd I sz ino L i).length=L.length:=by simp [Gv]
theorem Zwu (S D Hd I:List C) (sz ino:Nat) (L:List (List C)) (i:Nat) (hi:i<L.length):(Gv S D Hd I sz ino L i)[i]? = some Rx:=by simp [Gv,hi]
theorem V5 (S D Hd I:List C) (sz ino:Nat) (L:List (List C)) (i:Nat) (x y:List C) (hx:L[i]? = some x) (hy:y=Zlc S D Hd I sz ino i x):(Gv S D Hd I sz ino L i).set i y=Gv S D Hd I sz ino L (i+1):=by
 subst hy
 refine List.ext_getElem (by simp [Gv]) fun t h1 h2=>?_
 simp only[List.getElem_set]
 simp only[Gv,List.getElem_map,List.getElem_range]
 by_cases e:i=t
 ·subst e
  simp [hx]
 ·rw[if_neg e]
  by_cases h3:t<i
  ·rw[if_pos h3,if_pos (by omega)]
  ·rw[if_neg h3,if_neg (by omega)]
theorem Uj:K.types.get 117=some ti117:=by kernel_rfl
theorem Oc:ti117.desc=.slice 73:=rfl
theorem Zzw:Y1 K 174=some ti4:=by kernel_rfl
theorem Z0m (h:Go.Ev.H) (f:Nat→Bool):Ud h (some ti4) (some 2048) (some 2048)=some (.w (.c (.slice h.next 0 2048 1)),h.new (.row 1 (J3 (upto f 0)) false)):=by
 have e:List.replicate 2048 ti4.zero.cells=J3 (upto f 0):=by
  refine List.ext_getElem (by rw[List.length_replicate]; simp [J3]) fun t h1 h2=>?_
  rw[List.getElem_replicate]
  simp only[J3,List.getElem_map,upto]
  rfl
 show some (V.w (.c (.slice h.next 0 2048 1)),h.new (.row 1 (List.replicate 2048 ti4.zero.cells) false))=_
 rw[e]
theorem Qy (a b c d:C):Yd K 181 (some [(0,.g [a,b,c,d])])=some (.g [a,b,c,d,.int .u32 0]):=by kernel_rfl
noncomputable def Zv2:List C:=match Yd K 185 (some [(0,.c (.int .u32 1))]) with
 | some (.g l)=>l
 | _=>[]
theorem Zdh:Yd K 185 (some [(0,.c (.int .u32 1))])=some (.g Zv2):=by kernel_rfl
noncomputable def Z0b:List C:=match Yd K 37 (some [(0,.c (.int .u8 2)),(1,.c (.int .i64 1)),(2,.c (.int .u32 1))]) with
 | some (.g l)=>l
 | _=>[]
theorem Ziw:Yd K 37 (some [(0,.c (.int .u8 2)),(1,.c (.int .i64 1)),(2,.c (.int .u32 1))])=some (.g Z0b):=by kernel_rfl
structure Special (P:Program) (gr sz ino jr:Nat) (L DL:List (List C)) (S D Hd I:List C):Prop where
 s:∀ h:Go.Ev.H,Zv K P 97 [.g [.int .i64 gr,.int .i64 sz,.int .i64 ino,.int .i64 jr,.int .u32 0]] h (.tup [.g S,.c (.int .i64 0)]) h
 d:∀ (h:Go.Ev.H) (n:Nat),h.get n=some (.row 3 DL false)→Zv K P 98 [.g (Yw gr sz ino jr),.c (.slice n 0 gr 3)] h (.tup [.g D,.c (.int .i64 0)]) h
 hd:∀ h:Go.Ev.H,Zv K P 99 [.g Zv2] h (.tup [.g Hd,.c (.int .i64 0)]) h
 i:∀ (h:Go.Ev.H) (b:Nat) (kd a c:Int),L[b]? = some (thing kd a c 1)→Zv K P 100 [.g (pack (Ub sz ino kd a)),.c (.int .i64 0),.g Z0b] h (.tup [.g I,.c (.int .i64 0)]) h
 ls:S.length=256
 ld:D.length=256
 lh:Hd.length=256
 li:I.length=256
section
variable (Hh:Hearts K Tryz.prog)
include Hh
theorem mk2 {gr sz ino jr:Nat} (F:Fine gr sz ino jr) (p nA nO nD:Nat) (h1O:nO≠p) (h2O:nO≠nA) (h3O:nO≠nD) (L DL:List (List C)) (S D Hd I:List C) (Sp:Special Tryz.prog gr sz ino jr L DL S D Hd I) (hT:Zit L) (hlen:L.length≤4000):∀ (k b:Nat) (ts:Zw) (h:Go.Ev.H),b+k=L.length→h.get p=some (.row 4 [Yw gr sz ino jr] false)→h.get nA=some (.row 4 L false)→h.get nD=some (.row 3 DL false)→h.get nO=some (.row 256 (Gv S D Hd I sz ino L b) false) →
  Zi ts 1=.w (.c (.ptr p 0))→Zi ts 4=.w (.c (.slice nA 0 L.length 4))→Zi ts 5=.w (.c (.slice nO 0 L.length 256))→Zi ts 6=.w (.c (.slice nD 0 gr 3))→Zi ts 8=.w (.c (.int .i64 b))→(p<h.next∧nA<h.next∧nO<h.next∧nD<h.next) →
  Ya 159 none (q48 [1,1,1,1,1,1,1,1,0,1,2]) [] ts h fun x ds' ts' h'=>x=.exit 2∧ds'=[]∧h.next≤h'.next∧h'.get nO=some (.row 256 (Gv S D Hd I sz ino L L.length) false)∧(∀ m,m≠nO→m<h.next→h'.get m=h.get m)∧Zi ts' 5=.w (.c (.slice nO 0 L.length 256)):=by
 intro k
 induction k with
 | zero =>
  intro b ts h hb hp hA hD hO h1 h4 h5 h6 h8 hlt
  have eb:b=L.length:=by omega
  subst eb
  have c1:decide ((L.length:Int)<(L.length:Int))=false:=decide_eq_false (by omega)
  iterate 6 (first|apply Zp|apply Oe|apply Yt|((first|apply Goes.Zn|apply Goes.ops2 fits Hh Za); · simp (decide:=true) only [go_sem,Zl,H.get_put,H.Zd,Ze,Zz,reduceIte,Nat.reduceAdd,Nat.reduceMul,Zx,Z0,asC,Zb,Ye,Z7,h4,h8,c1,Zt,J6,Bn]<;>rfl))
  refine⟨rfl,rfl,Nat.le_refl _,hO,fun _ _ _=>rfl,?_⟩
  simp (decide:=true) only [Zb,reduceIte,h5]
 | succ k ih =>
  intro b ts h hb hp hA hD hO h1 h4 h5 h6 h8 hlt
  have hbl:b<L.length:=by omega
  obtain⟨kd,a,c,d,hx⟩:=hT L[b] (List.getElem_mem hbl)
  have hx':L[b]? = some (thing kd a c d):=by rw[List.getElem?_eq_getElem hbl,hx]
  have c1:decide ((b:Int)<(L.length:Int))=true:=decide_eq_true (by omega)
  have n2048:Ux (some (.int .i64 2048))=some 2048:=rfl
  have ms:=Z0m h (Ub sz ino kd a)
  iterate 13 (first|apply Zp|apply Z6|apply Yk|apply Yt|((first|apply Goes.Zn|apply Goes.ops2 fits Hh Za); · simp (decide:=true) only [go_sem,Zl,H.get_put,H.Zd,Ze,Zz,reduceIte,Nat.reduceAdd,Nat.reduceMul,Zx,Z0,asC,Zb,Ye,Z7,h4,h8,c1,ms,n2048,Zt,J6,Bn,Zzw]<;>rfl))
  show Ya 159 none (q48 [1,1,1,1,1,1,1,1,0,1,2,2,1,0,2,1,0,1]) _ _ _ _
  rw[Sq]
  refine Yk ((mk4 Hh F p nA h.next b (by omega) (by omega) L false kd a c d hx' hlen 2048 0 _ _ rfl ?_ ?_ ?_ ?_ ?_ ?_ ?_ ?_ ?_).mono ?_)
  ·rw[H.Zd,if_neg (by omega)]; exact hp
  ·rw[H.Zd,if_neg (by omega)]; exact hA
  ·rw[H.Zd,if_pos rfl]
  ·simp (decide:=true) only [Zb,reduceIte,h1]
  ·simp (decide:=true) only [Zb,reduceIte,h4]
  ·simp (decide:=true) only [Zb,reduceIte,h8]
  ·simp (decide:=true) only [Zb,reduceIte]
  ·simp (decide:=true) only [Zb,reduceIte]
   rfl
  ·rw[H.Zc]; omega
  rintro x ds' ts2 h2 ⟨rfl,rfl,hn2,hb2,hk2,low⟩
  rw[H.Zc] at hn2
  have k1:Zi ts2 1=.w (.c (.ptr p 0)):=by rw[low 1 (by decide)]; simp (decide:=true) only [Zb,reduceIte,h1]
  have k4:Zi ts2 4=.w (.c (.slice nA 0 L.length 4)):=by rw[low 4 (by decide)]; simp (decide:=true) only [Zb,reduceIte,h4]
  have k5:Zi ts2 5=.w (.c (.slice nO 0 L.length 256)):=by rw[low 5 (by decide)]; simp (decide:=true) only [Zb,reduceIte,h5]
  have k6:Zi ts2 6=.w (.c (.slice nD 0 gr 3)):=by rw[low 6 (by decide)]; simp (decide:=true) only [Zb,reduceIte,h6]
  have k8:Zi ts2 8=.w (.c (.int .i64 b)):=by rw[low 8 (by decide)]; simp (decide:=true) only [Zb,reduceIte,h8]
  have k9:Zi ts2 9=.w (.c (.slice h.next 0 2048 1)):=by rw[low 9 (by decide)]; simp (decide:=true) only [Zb,reduceIte]
  have hp2:h2.get p=some (.row 4 [[.int .i64 gr,.int .i64 sz,.int .i64 ino,.int .i64 jr]] false):=by rw[hk2 _ (by omega),H.Zd,if_neg (by omega)]; exact hp
  have hA2:h2.get nA=some (.row 4 L false):=by rw[hk2 _ (by omega),H.Zd,if_neg (by omega)]; exact hA
  have hD2:h2.get nD=some (.row 3 DL false):=by rw[hk2 _ (by omega),H.Zd,if_neg (by omega)]; exact hD
  have hO2:h2.get nO=some (.row 256 (Gv S D Hd I sz ino L b) false):=by rw[hk2 _ (by omega),H.Zd,if_neg (by omega)]; exact hO
  have b1:Nat.blt b L.length=true:=U6 hbl
  have lp:(pack (Ub sz ino kd a)).length=256:=by simp [pack]
  have wr1:Z9 256 (Gv S D Hd I sz ino L b) (b * 256) (pack (Ub sz ino kd a))=some ((Gv S D Hd I sz ino L b).set b (pack (Ub sz ino kd a))):=Fz lp (by omega) (Zwu _ _ _ _ _ _ _ _ hbl) (by simp [Rx])
  have hE:((Gv S D Hd I sz ino L b).set b (pack (Ub sz ino kd a)))[b]? = some (pack (Ub sz ino kd a)):=by
   rw[List.getElem?_set_self (by rw[Zwv]; exact hbl)]
  have w1:Yq .i64 ((b:Int)+1)=.int .i64 ((b+1:Nat):Int):=by rw[wrap64 (by omega) (by omega)]; congr 1
  have hn1:p≠nO:=Ne.symm h1O
  have hn2':nA≠nO:=Ne.symm h2O
  have hn3:nD≠nO:=Ne.symm h3O
  by_cases b0:b=0
  ·have z0:((b:Int) == 0)=true:=by rw[b0]; rfl
   have z1:=z0
   have z2:=z0
   have setb:=V5 S D Hd I sz ino L b _ S hx' (by rw[b0]; rfl)
   have wr2:Z9 256 ((Gv S D Hd I sz ino L b).set b (pack (Ub sz ino kd a))) (b * 256) S=some (((Gv S D Hd I sz ino L b).set b (pack (Ub sz ino kd a))).set b S):=Fz Sp.ls (by omega) hE lp
   have ls:=Sp.ls
   have rg:Zm 4 [[C.int .i64 gr,.int .i64 sz,.int .i64 ino,.int .i64 jr]] 0 4=some [.int .i64 gr,.int .i64 sz,.int .i64 ino,.int .i64 jr]:=rfl
   apply Zp
   (apply Goes.ops2 fits Hh (Zu Za (Q0 Hh (Ub sz ino kd a) h.next false h2 hb2)); · simp (decide:=true) only [go_sem,Zl,H.get_put,H.Zd,Ze,Zz,reduceIte,Nat.reduceAdd,Nat.reduceMul,Z8,k1,k4,k5,k6,k8,k9,hp2,hA2,hD2,hO2,b1,wr1,lp,w1,z0,z1,z2,wr2,ls,rg,hn1,hn2',Y0,Jl,Jm,J9,Od,Uj,Oc,Ug,Oo,O7,Ji,Oq,Oj,Uz,Bq,Bh,cW,gW,Nat.zero_add,Nat.add_zero,Nat.beq_refl,Qy]<;>rfl)
   iterate 4 (first|apply Zp|apply Yk|((first|apply Goes.Zn|apply Goes.ops2 fits Hh Za); · simp (decide:=true) only [go_sem,Zl,H.get_put,H.Zd,Ze,Zz,reduceIte,Nat.reduceAdd,Nat.reduceMul,Zx,Z0,asC,Zb,Ye,Z7,k1,k4,k5,k6,k8,k9,hp2,hA2,hD2,hO2,b1,wr1,lp,w1,z0,z1,z2,wr2,ls,rg,hn1,hn2',Y0,Jl,Jm,J9,Od,Uj,Oc,Ug,Oo,O7,Ji,Oq,Oj,Uz,Bq,Bh,cW,gW,Nat.zero_add,Nat.add_zero,Nat.beq_refl,Qy]<;>rfl))
   (apply Goes.ops2 fits Hh (Zu Za (Sp.s (h2.put nO (.row 256 ((Gv S D Hd I sz ino L b).set b (pack (Ub sz ino kd a))) false)))); · simp (decide:=true) only [go_sem,Zl,H.get_put,H.Zd,Ze,Zz,reduceIte,Nat.reduceAdd,Nat.reduceMul,Z8,k1,k4,k5,k6,k8,k9,hp2,hA2,hD2,hO2,b1,wr1,lp,w1,z0,z1,z2,wr2,ls,rg,hn1,hn2',Y0,Jl,Jm,J9,Od,Uj,Oc,Ug,Oo,O7,Ji,Oq,Oj,Uz,Bq,Bh,cW,gW,Nat.zero_add,Nat.add_zero,Nat.beq_refl,Qy]<;>rfl)
   (apply Goes.ops2 fits Hh Za; · simp (decide:=true) only [go_sem,Zl,H.get_put,H.Zd,Ze,Zz,reduceIte,Nat.reduceAdd,Nat.reduceMul,k1,k4,k5,k6,k8,k9,hp2,hA2,hD2,hO2,b1,wr1,lp,w1,z0,z1,z2,wr2,ls,rg,hn1,hn2',Y0,Jl,Jm,J9,Od,Uj,Oc,Ug,Oo,O7,Ji,Oq,Oj,Uz,Bq,Bh,cW,gW,Nat.zero_add,Nat.add_zero,Nat.beq_refl,Qy]<;>rfl)
   show Ya 159 none (.loop (q48 [1,1,1,1,1,1,1,1,0,1,2,2])) _ _ _ _
   rw[←Gx]
   refine (ih (b+1) _ _ (by omega) ?_ ?_ ?_ ?_ ?_ ?_ ?_ ?_ ?_ ?_).mono ?_
   ·rw[H.get_put,if_neg (by omega),H.get_put,if_neg (by omega),hk2 _ (by omega),H.Zd,if_neg (by omega)]; exact hp
   ·rw[H.get_put,if_neg (by omega),H.get_put,if_neg (by omega),hk2 _ (by omega),H.Zd,if_neg (by omega)]; exact hA
   ·rw[H.get_put,if_neg (by omega),H.get_put,if_neg (by omega),hk2 _ (by omega),H.Zd,if_neg (by omega)]; exact hD
   ·rw[H.get_put,if_pos rfl,List.set_set,setb]
   ·simp (decide:=true) only [Zb,reduceIte,k1]
   ·simp (decide:=true) only [Zb,reduceIte,k4]
   ·simp (decide:=true) only [Zb,reduceIte,k5]
   ·simp (decide:=true) only [Zb,reduceIte,k6]
   ·simp (decide:=true) only [Zb,reduceIte]
   ·simp only[H.Zf]; omega
   ·rintro x ds' ts' h' ⟨e1,e2,e3,e4,e5,e6⟩
    simp only[H.Zf] at e3 e5
    refine⟨e1,e2,by omega,e4,fun m hm hlt=>?_,?_⟩
    ·rw[e5 m hm (by omega)]
     rw[H.get_put,if_neg (by omega),H.get_put,if_neg (by omega),hk2 _ (by omega),H.Zd,if_neg (by omega)]
    ·exact e6
  by_cases b1':b=1
  ·have z0:((b:Int) == 0)=false:=by rw[b1']; rfl
   have z1:((b:Int) == 1)=true:=by rw[b1']; rfl
   have z2:=z0
   have setb:=V5 S D Hd I sz ino L b _ D hx' (by rw[b1']; rfl)
   have wr2:Z9 256 ((Gv S D Hd I sz ino L b).set b (pack (Ub sz ino kd a))) (b * 256) D=some (((Gv S D Hd I sz ino L b).set b (pack (Ub sz ino kd a))).set b D):=Fz Sp.ld (by omega) hE lp
   have ls:=Sp.ld
   have rg:Zm 4 [[C.int .i64 gr,.int .i64 sz,.int .i64 ino,.int .i64 jr]] 0 4=some [.int .i64 gr,.int .i64 sz,.int .i64 ino,.int .i64 jr]:=rfl
   have dD:Zg 98 [.g [.int .i64 gr,.int .i64 sz,.int .i64 ino,.int .i64 jr],.c (.slice nD 0 gr 3)] (h2.put nO (.row 256 ((Gv S D Hd I sz ino L b).set b (pack (Ub sz ino kd a))) false)) (.tup [.g D,.c (.int .i64 0)]) (h2.put nO (.row 256 ((Gv S D Hd I sz ino L b).set b (pack (Ub sz ino kd a))) false)):=Sp.d _ nD (by rw[H.get_put,if_neg hn3]; exact hD2)
   apply Zp
   (apply Goes.ops2 fits Hh (Zu Za (Q0 Hh (Ub sz ino kd a) h.next false h2 hb2)); · simp (decide:=true) only [go_sem,Zl,H.get_put,H.Zd,Ze,Zz,reduceIte,Nat.reduceAdd,Nat.reduceMul,Z8,k1,k4,k5,k6,k8,k9,hp2,hA2,hD2,hO2,b1,wr1,lp,w1,z0,z1,z2,wr2,ls,rg,hn1,hn2',Y0,Jl,Jm,J9,Od,Uj,Oc,Ug,Oo,O7,Ji,Oq,Oj,Uz,Bq,Bh,cW,gW,Nat.zero_add,Nat.add_zero,Nat.beq_refl]<;>rfl)
   iterate 7 (first|apply Zp|apply Yk|((first|apply Goes.Zn|apply Goes.ops2 fits Hh Za); · simp (decide:=true) only [go_sem,Zl,H.get_put,H.Zd,Ze,Zz,reduceIte,Nat.reduceAdd,Nat.reduceMul,Zx,Z0,asC,Zb,Ye,Z7,k1,k4,k5,k6,k8,k9,hp2,hA2,hD2,hO2,b1,wr1,lp,w1,z0,z1,z2,wr2,ls,rg,hn1,hn2',Y0,Jl,Jm,J9,Od,Uj,Oc,Ug,Oo,O7,Ji,Oq,Oj,Uz,Bq,Bh,cW,gW,Nat.zero_add,Nat.add_zero,Nat.beq_refl]<;>rfl))
   (apply Goes.ops2 fits Hh (Zu Za dD); · simp (decide:=true) only [go_sem,Zl,H.get_put,H.Zd,Ze,Zz,reduceIte,Nat.reduceAdd,Nat.reduceMul,Z8,k1,k4,k5,k6,k8,k9,hp2,hA2,hD2,hO2,b1,wr1,lp,w1,z0,z1,z2,wr2,ls,rg,hn1,hn2',Y0,Jl,Jm,J9,Od,Uj,Oc,Ug,Oo,O7,Ji,Oq,Oj,Uz,Bq,Bh,cW,gW,Nat.zero_add,Nat.add_zero,Nat.beq_refl]<;>rfl)
   (apply Goes.ops2 fits Hh Za; · simp (decide:=true) only [go_sem,Zl,H.get_put,H.Zd,Ze,Zz,reduceIte,Nat.reduceAdd,Nat.reduceMul,k1,k4,k5,k6,k8,k9,hp2,hA2,hD2,hO2,b1,wr1,lp,w1,z0,z1,z2,wr2,ls,rg,hn1,hn2',Y0,Jl,Jm,J9,Od,Uj,Oc,Ug,Oo,O7,Ji,Oq,Oj,Uz,Bq,Bh,cW,gW,Nat.zero_add,Nat.add_zero,Nat.beq_refl]<;>rfl)
   show Ya 159 none (.loop (q48 [1,1,1,1,1,1,1,1,0,1,2,2])) _ _ _ _
   rw[←Gx]
   refine (ih (b+1) _ _ (by omega) ?_ ?_ ?_ ?_ ?_ ?_ ?_ ?_ ?_ ?_).mono ?_
   ·rw[H.get_put,if_neg (by omega),H.get_put,if_neg (by omega),hk2 _ (by omega),H.Zd,if_neg (by omega)]; exact hp
   ·rw[H.get_put,if_neg (by omega),H.get_put,if_neg (by omega),hk2 _ (by omega),H.Zd,if_neg (by omega)]; exact hA
   ·rw[H.get_put,if_neg (by omega),H.get_put,if_neg (by omega),hk2 _ (by omega),H.Zd,if_neg (by omega)]; exact hD
   ·rw[H.get_put,if_pos rfl,List.set_set,setb]
   ·simp (decide:=true) only [Zb,reduceIte,k1]
   ·simp (decide:=true) only [Zb,reduceIte,k4]
   ·simp (decide:=true) only [Zb,reduceIte,k5]
   ·simp (decide:=true) only [Zb,reduceIte,k6]
   ·simp (decide:=true) only [Zb,reduceIte]
   ·simp only[H.Zf]; omega
   ·rintro x ds' ts' h' ⟨e1,e2,e3,e4,e5,e6⟩
    simp only[H.Zf] at e3 e5
    refine⟨e1,e2,by omega,e4,fun m hm hlt=>?_,?_⟩
    ·rw[e5 m hm (by omega)]
     rw[H.get_put,if_neg (by omega),H.get_put,if_neg (by omega),hk2 _ (by omega),H.Zd,if_neg (by omega)]
    ·exact e6
  have z0:((b:Int) == 0)=false:=by simpa using b0
  have z1:((b:Int) == 1)=false:=by
   have:¬ (b:Int)=1:=by omega
   simpa using this
  by_cases b2:b=2
  ·have z2:((b:Int) == 2)=true:=by rw[b2]; rfl
   have setb:=V5 S D Hd I sz ino L b _ Hd hx' (by rw[b2]; rfl)
   have wr2:Z9 256 ((Gv S D Hd I sz ino L b).set b (pack (Ub sz ino kd a))) (b * 256) Hd=some (((Gv S D Hd I sz ino L b).set b (pack (Ub sz ino kd a))).set b Hd):=Fz Sp.lh (by omega) hE lp
   have ls:=Sp.lh
   apply Zp
   (apply Goes.ops2 fits Hh (Zu Za (Q0 Hh (Ub sz ino kd a) h.next false h2 hb2)); · simp (decide:=true) only [go_sem,Zl,H.get_put,H.Zd,Ze,Zz,reduceIte,Nat.reduceAdd,Nat.reduceMul,Z8,k1,k4,k5,k6,k8,k9,hp2,hA2,hD2,hO2,b1,wr1,lp,w1,z0,z1,z2,wr2,ls,hn1,hn2',Y0,Jl,Jm,J9,Od,Uj,Oc,Ug,Oo,O7,Ji,Oq,Oj,Uz,Bq,Bh,cW,gW,Nat.zero_add,Nat.add_zero,Nat.beq_refl,Zdh]<;>rfl)
   iterate 10 (first|apply Zp|apply Yk|((first|apply Goes.Zn|apply Goes.ops2 fits Hh Za); · simp (decide:=true) only [go_sem,Zl,H.get_put,H.Zd,Ze,Zz,reduceIte,Nat.reduceAdd,Nat.reduceMul,Zx,Z0,asC,Zb,Ye,Z7,k1,k4,k5,k6,k8,k9,hp2,hA2,hD2,hO2,b1,wr1,lp,w1,z0,z1,z2,wr2,ls,hn1,hn2',Y0,Jl,Jm,J9,Od,Uj,Oc,Ug,Oo,O7,Ji,Oq,Oj,Uz,Bq,Bh,cW,gW,Nat.zero_add,Nat.add_zero,Nat.beq_refl,Zdh]<;>rfl))
   (apply Goes.ops2 fits Hh (Zu Za (Sp.hd (h2.put nO (.row 256 ((Gv S D Hd I sz ino L b).set b (pack (Ub sz ino kd a))) false)))); · simp (decide:=true) only [go_sem,Zl,H.get_put,H.Zd,Ze,Zz,reduceIte,Nat.reduceAdd,Nat.reduceMul,Z8,k1,k4,k5,k6,k8,k9,hp2,hA2,hD2,hO2,b1,wr1,lp,w1,z0,z1,z2,wr2,ls,hn1,hn2',Y0,Jl,Jm,J9,Od,Uj,Oc,Ug,Oo,O7,Ji,Oq,Oj,Uz,Bq,Bh,cW,gW,Nat.zero_add,Nat.add_zero,Nat.beq_refl,Zdh]<;>rfl)
   (apply Goes.ops2 fits Hh Za; · simp (decide:=true) only [go_sem,Zl,H.get_put,H.Zd,Ze,Zz,reduceIte,Nat.reduceAdd,Nat.reduceMul,k1,k4,k5,k6,k8,k9,hp2,hA2,hD2,hO2,b1,wr1,lp,w1,z0,z1,z2,wr2,ls,hn1,hn2',Y0,Jl,Jm,J9,Od,Uj,Oc,Ug,Oo,O7,Ji,Oq,Oj,Uz,Bq,Bh,cW,gW,Nat.zero_add,Nat.add_zero,Nat.beq_refl,Zdh]<;>rfl)
   show Ya 159 none (.loop (q48 [1,1,1,1,1,1,1,1,0,1,2,2])) _ _ _ _
   rw[←Gx]
   refine (ih (b+1) _ _ (by omega) ?_ ?_ ?_ ?_ ?_ ?_ ?_ ?_ ?_ ?_).mono ?_
   ·rw[H.get_put,if_neg (by omega),H.get_put,if_neg (by omega),hk2 _ (by omega),H.Zd,if_neg (by omega)]; exact hp
   ·rw[H.get_put,if_neg (by omega),H.get_put,if_neg (by omega),hk2 _ (by omega),H.Zd,if_neg (by omega)]; exact hA
   ·rw[H.get_put,if_neg (by omega),H.get_put,if_neg (by omega),hk2 _ (by omega),H.Zd,if_neg (by omega)]; exact hD
   ·rw[H.get_put,if_pos rfl,List.set_set,setb]
   ·simp (decide:=true) only [Zb,reduceIte,k1]
   ·simp (decide:=true) only [Zb,reduceIte,k4]
   ·simp (decide:=true) only [Zb,reduceIte,k5]
   ·simp (decide:=true) only [Zb,reduceIte,k6]
   ·simp (decide:=true) only [Zb,reduceIte]
   ·simp only[H.Zf]; omega
   ·rintro x ds' ts' h' ⟨e1,e2,e3,e4,e5,e6⟩
    simp only[H.Zf] at e3 e5
    refine⟨e1,e2,by omega,e4,fun m hm hlt=>?_,?_⟩
    ·rw[e5 m hm (by omega)]
     rw[H.get_put,if_neg (by omega),H.get_put,if_neg (by omega),hk2 _ (by omega),H.Zd,if_neg (by omega)]
    ·exact e6
  have z2:((b:Int) == 2)=false:=by
   have:¬ (b:Int)=2:=by omega
   simpa using this
  have r3:read1 4 L (b * 4+3)=some (.int .i64 d):=Ee (sz:=4) (j:=3) (by omega) hx'
  by_cases d1:d=1
  ·have e1:(d == 1)=true:=by rw[d1]; rfl
   have setb:=V5 S D Hd I sz ino L b _ I hx' (by simp only[thing,Zlc]; rw[if_neg b0,if_neg b1',if_neg b2,if_pos d1])
   have wr2:Z9 256 ((Gv S D Hd I sz ino L b).set b (pack (Ub sz ino kd a))) (b * 256) I=some (((Gv S D Hd I sz ino L b).set b (pack (Ub sz ino kd a))).set b I):=Fz Sp.li (by omega) hE lp
   have ls:=Sp.li
   have rb:Zm 256 ((Gv S D Hd I sz ino L b).set b (pack (Ub sz ino kd a))) (b * 256) 256=some (pack (Ub sz ino kd a)):=Zfs (by omega) hE lp
   apply Zp
   (apply Goes.ops2 fits Hh (Zu Za (Q0 Hh (Ub sz ino kd a) h.next false h2 hb2)); · simp (decide:=true) only [go_sem,Zl,H.get_put,H.Zd,Ze,Zz,reduceIte,Nat.reduceAdd,Nat.reduceMul,Z8,k1,k4,k5,k6,k8,k9,hp2,hA2,hD2,hO2,b1,wr1,lp,w1,z0,z1,z2,wr2,ls,r3,e1,rb,hn1,hn2',Y0,Jl,Jm,J9,Od,Uj,Oc,Ug,Oo,O7,Ji,Oq,Oj,Uz,Bq,Bh,cW,gW,Nat.zero_add,Nat.add_zero,Nat.beq_refl,Ziw]<;>rfl)
   iterate 13 (first|apply Zp|apply Yk|((first|apply Goes.Zn|apply Goes.ops2 fits Hh Za); · simp (decide:=true) only [go_sem,Zl,H.get_put,H.Zd,Ze,Zz,reduceIte,Nat.reduceAdd,Nat.reduceMul,Zx,Z0,asC,Zb,Ye,Z7,k1,k4,k5,k6,k8,k9,hp2,hA2,hD2,hO2,b1,wr1,lp,w1,z0,z1,z2,wr2,ls,r3,e1,rb,hn1,hn2',Y0,Jl,Jm,J9,Od,Uj,Oc,Ug,Oo,O7,Ji,Oq,Oj,Uz,Bq,Bh,cW,gW,Nat.zero_add,Nat.add_zero,Nat.beq_refl,Ziw]<;>rfl))
   (apply Goes.ops2 fits Hh (Zu Za (Sp.i (h2.put nO (.row 256 ((Gv S D Hd I sz ino L b).set b (pack (Ub sz ino kd a))) false)) b kd a c (d1 ▸ hx'))); · simp (decide:=true) only [go_sem,Zl,H.get_put,H.Zd,Ze,Zz,reduceIte,Nat.reduceAdd,Nat.reduceMul,Z8,k1,k4,k5,k6,k8,k9,hp2,hA2,hD2,hO2,b1,wr1,lp,w1,z0,z1,z2,wr2,ls,r3,e1,rb,hn1,hn2',Y0,Jl,Jm,J9,Od,Uj,Oc,Ug,Oo,O7,Ji,Oq,Oj,Uz,Bq,Bh,cW,gW,Nat.zero_add,Nat.add_zero,Nat.beq_refl,Ziw]<;>rfl)
   (apply Goes.ops2 fits Hh Za; · simp (decide:=true) only [go_sem,Zl,H.get_put,H.Zd,Ze,Zz,reduceIte,Nat.reduceAdd,Nat.reduceMul,k1,k4,k5,k6,k8,k9,hp2,hA2,hD2,hO2,b1,wr1,lp,w1,z0,z1,z2,wr2,ls,r3,e1,rb,hn1,hn2',Y0,Jl,Jm,J9,Od,Uj,Oc,Ug,Oo,O7,Ji,Oq,Oj,Uz,Bq,Bh,cW,gW,Nat.zero_add,Nat.add_zero,Nat.beq_refl,Ziw]<;>rfl)
   show Ya 159 none (.loop (q48 [1,1,1,1,1,1,1,1,0,1,2,2])) _ _ _ _
   rw[←Gx]
   refine (ih (b+1) _ _ (by omega) ?_ ?_ ?_ ?_ ?_ ?_ ?_ ?_ ?_ ?_).mono ?_
   ·rw[H.get_put,if_neg (by omega),H.get_put,if_neg (by omega),hk2 _ (by omega),H.Zd,if_neg (by omega)]; exact hp
   ·rw[H.get_put,if_neg (by omega),H.get_put,if_neg (by omega),hk2 _ (by omega),H.Zd,if_neg (by omega)]; exact hA
   ·rw[H.get_put,if_neg (by omega),H.get_put,if_neg (by omega),hk2 _ (by omega),H.Zd,if_neg (by omega)]; exact hD
   ·rw[H.get_put,if_pos rfl,List.set_set,setb]
   ·simp (decide:=true) only [Zb,reduceIte,k1]
   ·simp (decide:=true) only [Zb,reduceIte,k4]
   ·simp (decide:=true) only [Zb,reduceIte,k5]
   ·simp (decide:=true) only [Zb,reduceIte,k6]
   ·simp (decide:=true) only [Zb,reduceIte]
   ·simp only[H.Zf]; omega
   ·rintro x ds' ts' h' ⟨e1,e2,e3,e4,e5,e6⟩
    simp only[H.Zf] at e3 e5
    refine⟨e1,e2,by omega,e4,fun m hm hlt=>?_,?_⟩
    ·rw[e5 m hm (by omega)]
     rw[H.get_put,if_neg (by omega),H.get_put,if_neg (by omega),hk2 _ (by omega),H.Zd,if_neg (by omega)]
    ·exact e6
  ·have e1:(d == 1)=false:=by simpa using d1
   have setb:=V5 S D Hd I sz ino L b _ (pack (Ub sz ino kd a)) hx' (by simp only[thing,Zlc]; rw[if_neg b0,if_neg b1',if_neg b2,if_neg d1])
   apply Zp
   (apply Goes.ops2 fits Hh (Zu Za (Q0 Hh (Ub sz ino kd a) h.next false h2 hb2)); · simp (decide:=true) only [go_sem,Zl,H.get_put,H.Zd,Ze,Zz,reduceIte,Nat.reduceAdd,Nat.reduceMul,Z8,k1,k4,k5,k6,k8,k9,hp2,hA2,hD2,hO2,b1,wr1,lp,w1,z0,z1,z2,r3,e1,hn1,hn2',Y0,Jl,Jm,J9,Od,Uj,Oc,Ug,Oo,O7,Ji,Oq,Oj,Uz,Bq,Bh,cW,gW,Nat.zero_add,Nat.add_zero,Nat.beq_refl]<;>rfl)
   iterate 15 (first|apply Zp|apply Z6|apply Yk|((first|apply Goes.Zn|apply Goes.ops2 fits Hh Za); · simp (decide:=true) only [go_sem,Zl,H.get_put,H.Zd,Ze,Zz,reduceIte,Nat.reduceAdd,Nat.reduceMul,Zx,Z0,asC,Zb,Ye,Z7,k1,k4,k5,k6,k8,k9,hp2,hA2,hD2,hO2,b1,wr1,lp,w1,z0,z1,z2,r3,e1,hn1,hn2',Y0,Jl,Jm,J9,Od,Uj,Oc,Ug,Oo,O7,Ji,Oq,Oj,Uz,Bq,Bh,cW,gW,Nat.zero_add,Nat.add_zero,Nat.beq_refl]<;>rfl))
   show Ya 159 none (.loop (q48 [1,1,1,1,1,1,1,1,0,1,2,2])) _ _ _ _
   rw[←Gx]
   refine (ih (b+1) _ _ (by omega) ?_ ?_ ?_ ?_ ?_ ?_ ?_ ?_ ?_ ?_).mono ?_
   ·rw[H.get_put,if_neg (by omega),hk2 _ (by omega),H.Zd,if_neg (by omega)]; exact hp
   ·rw[H.get_put,if_neg (by omega),hk2 _ (by omega),H.Zd,if_neg (by omega)]; exact hA
   ·rw[H.get_put,if_neg (by omega),hk2 _ (by omega),H.Zd,if_neg (by omega)]; exact hD
   ·rw[H.get_put,if_pos rfl,setb]
   ·simp (decide:=true) only [Zb,reduceIte,k1]
   ·simp (decide:=true) only [Zb,reduceIte,k4]
   ·simp (decide:=true) only [Zb,reduceIte,k5]
   ·simp (decide:=true) only [Zb,reduceIte,k6]
   ·simp (decide:=true) only [Zb,reduceIte]
   ·simp only[H.Zf]; omega
   ·rintro x ds' ts' h' ⟨e1,e2,e3,e4,e5,e6⟩
    simp only[H.Zf] at e3 e5
    refine⟨e1,e2,by omega,e4,fun m hm hlt=>?_,?_⟩
    ·rw[e5 m hm (by omega)]
     rw[H.get_put,if_neg (by omega),hk2 _ (by omega),H.Zd,if_neg (by omega)]
    ·exact e6
end
theorem Xn:Y1 K 59=some ti63:=by kernel_rfl
theorem Zro:K.types.get 59=some ti59:=by kernel_rfl
theorem Z2s:ti59.desc=.slice 63:=rfl
theorem Z3z:K.types.get 63=some ti63:=by kernel_rfl
theorem Zxe:ti63.size=3:=rfl
theorem Z1y:ti63.bytes=24:=rfl
theorem Z2x:Zk K 63 1=some (1,ti3):=by kernel_rfl
theorem Z2y:Zk K 63 2=some (2,ti3):=by kernel_rfl
theorem Xy (n off len sz:Nat):Jb K 59 (.slice n off len sz)=true:=by unfold Jb; rw[Zro]; rfl
theorem Xj (a b:Int):Yd K 63 (some [(0,.c (.int .i64 a)),(1,.c (.int .i64 b))])=some (.g [.int .i64 a,.int .i64 b,.int .i64 0]):=by kernel_rfl
theorem Zbp (h:Go.Ev.H) (a b c:C):Y4 h 1 (some ti63) (some [(0,.g [a,b,c])])=some (.w (.c (.slice h.next 0 1 3)),h.new (.row 3 [[a,b,c]] false)):=rfl
def Wp (dn ino:Nat):List C:=[.int .i64 dn,.int .i64 ino,.int .i64 0]
theorem Z5b {h:Go.Ev.H} {n:Nat} {L:List (List C)} (x:List C) (ho:h.get n=some (.row 3 L false)) (hn:n<h.next) (hl:L.length≤4000) :
  Uy (h.new (.row 3 [x] false)) (some ti63) (.slice n 0 L.length 3) (.slice h.next 0 1 3)=some (.w (.c (.slice (h.next+1) 0 (L.length+1) 3)),((h.new (.row 3 [x] false)).del n).new (.row 3 (L++[x]) false)) :=
 Xf (M:=[x]) Zxe (by rw[H.Zd,if_neg (by omega)]; exact ho) (by rw[H.Zd,if_pos rfl]) (by simp) (by rw[Z1y]; show (L.length+1) * 24≤_; omega) (by show L.length+1≤_; omega)
theorem Z21 {h:Go.Ev.H} (x:List C) :
  Uy (h.new (.row 3 [x] false)) (some ti63) .snil (.slice h.next 0 1 3)=some (.w (.c (.slice (h.next+1) 0 1 3)),(h.new (.row 3 [x] false)).new (.row 3 [x] false)) :=
 append_nil (M:=[x]) Zxe (by rw[H.Zd,if_pos rfl]) (by simp) (by rw[Z1y]; show 1 * 24≤_; omega) (by show 1≤_; omega)
section
variable (Hh:Hearts K Tryz.prog)
include Hh
theorem mk0 {gr sz ino jr:Nat} (F:Fine gr sz ino jr) (p base:Nat) (hpb:p<base):∀ (k i:Nat) (ts:Zw) (h:Go.Ev.H),i+k=gr→base≤h.next→h.get p=some (.row 4 [Yw gr sz ino jr] false)→Zi ts 1=.w (.c (.ptr p 0))→Zi ts 7=.w (.c (.int .i64 i))→(i=0∧Zi ts 6=.w (.c .snil)∨∃ n,base≤n∧n<h.next∧Zi ts 6=.w (.c (.slice n 0 i 3))∧h.get n=some (.row 3 (List.replicate i (Wp (O0 (Ol gr sz ino jr)) ino)) false)) →
  Ya 159 none (q48 [1,1,1,1,1,0,1,2]) [] ts h fun x ds' ts' h'=>x=.exit 0∧ds'=[]∧h.next≤h'.next∧(∀ m,m<base→h'.get m=h.get m)∧Zi ts' 1=Zi ts 1∧Zi ts' 4=Zi ts 4∧Zi ts' 5=Zi ts 5∧∃ n,base≤n∧n<h'.next∧Zi ts' 6=.w (.c (.slice n 0 gr 3))∧h'.get n=some (.row 3 (List.replicate gr (Wp (O0 (Ol gr sz ino jr)) ino)) false):=by
 have F':=F
 obtain⟨g1,g2,g3,g4,g5,g6,g7,g8,g9,g10,g11⟩:=F
 intro k
 induction k with
 | zero =>
  intro i ts h hi hb hp h1 h7 st
  have ei:i=gr:=by omega
  subst ei
  have hp':h.get p=some (.row 4 [[.int .i64 i,.int .i64 sz,.int .i64 ino,.int .i64 jr]] false):=hp
  have c1:decide ((i:Int)<(i:Int))=false:=decide_eq_false (by omega)
  iterate 6 (first|apply Zp|apply Oe|apply Yt|((first|apply Goes.Zn|apply Goes.ops2 fits Hh Za); · simp (decide:=true) only [go_sem,Zl,H.get_put,H.Zd,Ze,Zz,reduceIte,Nat.reduceAdd,Nat.reduceMul,Zx,Z0,asC,Zb,Ye,Z7,h1,h7,hp',c1,Wq,geo0,Ji,Oq,Oj,cW,Nat.zero_add]<;>rfl))
  rcases st with ⟨e,_⟩|⟨n,n1,n2,n3,n4⟩
  ·omega
  refine⟨rfl,rfl,Nat.le_refl _,fun _ _=>rfl,?_,?_,?_,n,n1,n2,?_,n4⟩
  ·simp (decide:=true) only [Zb,reduceIte]
  ·simp (decide:=true) only [Zb,reduceIte]
  ·simp (decide:=true) only [Zb,reduceIte]
  ·simp (decide:=true) only [Zb,reduceIte,n3]
 | succ k ih =>
  intro i ts h hi hb hp h1 h7 st
  have hp':h.get p=some (.row 4 [[.int .i64 gr,.int .i64 sz,.int .i64 ino,.int .i64 jr]] false):=hp
  have c1:decide ((i:Int)<(gr:Int))=true:=decide_eq_true (by omega)
  have w1:Yq .i64 ((i:Int)+1)=.int .i64 ((i+1:Nat):Int):=by rw[wrap64 (by omega) (by omega)]; congr 1
  have rg:Zm 4 [[C.int .i64 gr,.int .i64 sz,.int .i64 ino,.int .i64 jr]] 0 4=some [.int .i64 gr,.int .i64 sz,.int .i64 ino,.int .i64 jr]:=rfl
  have dk:Zg 95 [.g [.int .i64 gr,.int .i64 sz,.int .i64 ino,.int .i64 jr]] h (.w (.c (.int .i64 (O0 (Ol gr sz ino jr):Nat)))) h:=Zvg Hh F' h
  rcases st with ⟨e,h6⟩|⟨n,n1,n2,n3,n4⟩
  ·subst e
   have ap:=Z21 (h:=h) (Wp (O0 (Ol gr sz ino jr)) ino)
   simp only[Wp] at ap
   have q1:p≠h.next:=by omega
   have q2:p≠h.next+1:=by omega
   iterate 8 (first|apply Zp|apply Z6|apply Yk|apply Yt|((first|apply Goes.Zn|apply Goes.ops2 fits Hh Za); · simp (decide:=true) only [go_sem,Zl,H.get_put,H.Zd,Ze,Zz,reduceIte,Nat.reduceAdd,Nat.reduceMul,Zx,Z0,asC,Zb,Ye,Z7,h1,h6,h7,hp',c1,w1,rg,ap,q1,q2,Wq,geo0,Fj,geo2,Ji,Oq,Oj,Uz,Bh,Bq,cW,gW,Nat.zero_add,Xn,Xy,Xj,Zbp,Zt]<;>rfl))
   (apply Goes.drawn2 fits Hh (Zu Za dk) (by kernel_rfl); · simp (decide:=true) only [go_sem,H.get_put,H.Zd,Ze,Zz,reduceIte,Nat.reduceAdd,Nat.reduceMul,drG,Z8,h1,h6,h7,hp',c1,w1,rg,ap,q1,q2,Wq,geo0,Fj,geo2,Ji,Oq,Oj,Uz,Bh,Bq,cW,gW,Nat.zero_add,Xn,Xy,Xj,Zbp,Zt]<;>rfl)
   (apply Goes.ops2 fits Hh Za; · simp (decide:=true) only [go_sem,Zl,H.get_put,H.Zd,Ze,Zz,reduceIte,Nat.reduceAdd,Nat.reduceMul,h1,h6,h7,hp',c1,w1,rg,ap,q1,q2,Wq,geo0,Fj,geo2,Ji,Oq,Oj,Uz,Bh,Bq,cW,gW,Nat.zero_add,Xn,Xy,Xj,Zbp,Zt]<;>rfl)
   show Ya 159 none (.loop (q48 [1,1,1,1,1,0,1,2,2])) _ _ _ _
   rw[←Zay]
   refine (ih 1 _ _ (by omega) ?_ ?_ ?_ ?_ (.inr ⟨h.next+1,by omega,?_,?_,?_⟩)).mono ?_
   ·simp only[H.Zc,H.Yo]; omega
   ·rw[H.Zd,H.Zc,if_neg (by omega),H.Zd,if_neg (by omega)]; exact hp
   ·simp (decide:=true) only [Zb,reduceIte,h1]
   ·simp (decide:=true) only [Zb,reduceIte]<;>rfl
   ·simp only[H.Zc,H.Yo]; omega
   ·simp (decide:=true) only [Zb,reduceIte]<;>rfl
   ·rw[H.Zd,H.Zc,if_pos rfl]; rfl
   ·rintro x ds' ts' h' ⟨e1,e2,e3,e4,e5,e6,e7,e8⟩
    simp only[H.Zc,H.Yo] at e3
    refine⟨e1,e2,by omega,fun m hm=>?_,?_,?_,?_,e8⟩
    ·rw[e4 m hm]
     rw[H.Zd,H.Zc,if_neg (by omega),H.Zd,if_neg (by omega)]
    ·rw[e5]; simp (decide:=true) only [Zb,reduceIte]
    ·rw[e6]; simp (decide:=true) only [Zb,reduceIte]
    ·rw[e7]; simp (decide:=true) only [Zb,reduceIte]
  ·have ap:=Z5b (Wp (O0 (Ol gr sz ino jr)) ino) n4 n2 (by rw[List.length_replicate]; omega)
   simp only[Wp,List.length_replicate] at ap
   have q1:p≠h.next:=by omega
   have q2:p≠h.next+1:=by omega
   have q3:p≠n:=by omega
   iterate 8 (first|apply Zp|apply Z6|apply Yk|apply Yt|((first|apply Goes.Zn|apply Goes.ops2 fits Hh Za); · simp (decide:=true) only [go_sem,Zl,H.get_put,H.Zd,Ze,Zz,reduceIte,Nat.reduceAdd,Nat.reduceMul,Zx,Z0,asC,Zb,Ye,Z7,h1,n3,h7,hp',c1,w1,rg,ap,q1,q2,q3,Wq,geo0,Fj,geo2,Ji,Oq,Oj,Uz,Bh,Bq,cW,gW,Nat.zero_add,Xn,Xy,Xj,Zbp,Zt,H.Bb,H.Yo]<;>rfl))
   (apply Goes.drawn2 fits Hh (Zu Za dk) (by kernel_rfl); · simp (decide:=true) only [go_sem,H.get_put,H.Zd,Ze,Zz,reduceIte,Nat.reduceAdd,Nat.reduceMul,drG,Z8,h1,n3,h7,hp',c1,w1,rg,ap,q1,q2,q3,Wq,geo0,Fj,geo2,Ji,Oq,Oj,Uz,Bh,Bq,cW,gW,Nat.zero_add,Xn,Xy,Xj,Zbp,Zt,H.Bb,H.Yo]<;>rfl)
   (apply Goes.ops2 fits Hh Za; · simp (decide:=true) only [go_sem,Zl,H.get_put,H.Zd,Ze,Zz,reduceIte,Nat.reduceAdd,Nat.reduceMul,h1,n3,h7,hp',c1,w1,rg,ap,q1,q2,q3,Wq,geo0,Fj,geo2,Ji,Oq,Oj,Uz,Bh,Bq,cW,gW,Nat.zero_add,Xn,Xy,Xj,Zbp,Zt,H.Bb,H.Yo]<;>rfl)
   show Ya 159 none (.loop (q48 [1,1,1,1,1,0,1,2,2])) _ _ _ _
   rw[←Zay]
   refine (ih (i+1) _ _ (by omega) ?_ ?_ ?_ ?_ (.inr ⟨h.next+1,by omega,?_,?_,?_⟩)).mono ?_
   ·simp only[H.Zc,H.Yo]; omega
   ·rw[H.Zd,H.Yo,H.Zc,if_neg (by omega),H.Bb,if_neg (by omega),H.Zd,if_neg (by omega)]; exact hp
   ·simp (decide:=true) only [Zb,reduceIte,h1]
   ·simp (decide:=true) only [Zb,reduceIte]<;>rfl
   ·simp only[H.Zc,H.Yo]; omega
   ·simp (decide:=true) only [Zb,reduceIte]<;>rfl
   ·rw[H.Zd,H.Yo,H.Zc,if_pos rfl,List.replicate_succ']; rfl
   ·rintro x ds' ts' h' ⟨e1,e2,e3,e4,e5,e6,e7,e8⟩
    simp only[H.Zc,H.Yo] at e3
    refine⟨e1,e2,by omega,fun m hm=>?_,?_,?_,?_,e8⟩
    ·rw[e4 m hm]
     rw[H.Zd,H.Yo,H.Zc,if_neg (by omega),H.Bb,if_neg (by omega),H.Zd,if_neg (by omega)]
    ·rw[e5]; simp (decide:=true) only [Zb,reduceIte]
    ·rw[e6]; simp (decide:=true) only [Zb,reduceIte]
    ·rw[e7]; simp (decide:=true) only [Zb,reduceIte]
omit Hh in
theorem Vi:Y1 K 117=some ti73:=by kernel_rfl
omit Hh in
theorem Z2i:ti73.bytes=256:=rfl
omit Hh in
theorem Z4d:ti73.zero.cells=Rx:=rfl
omit Hh in
theorem Zwi (h:Go.Ev.H) (S D Hd I:List C) (sz ino:Nat) (L:List (List C)) (hL:L.length≤4000):Ud h (some ti73) (some L.length) (some L.length)=some (.w (.c (.slice h.next 0 L.length 256)),h.new (.row 256 (Gv S D Hd I sz ino L 0) false)):=by
 have e:List.replicate L.length Rx=Gv S D Hd I sz ino L 0:=by
  refine List.ext_getElem (by simp [Gv]) fun t h1 h2=>?_
  simp [Gv]
 have b1:Nat.ble L.length L.length=true:=Lv (Nat.le_refl _)
 have b2:Nat.ble (L.length * 256) 1099511627776=true:=Lv (by omega)
 have b3:Nat.ble L.length 1099511627776=true:=Lv (by omega)
 simp only[Ud,Z2i,b1,b2,b3,Bool.and_self,cond_true,J8,Z4d,Oo,e]
def Zee (dn ino gr:Nat):List (List C):=[.int .i64 dn,.int .i64 ((ino - 1:Nat):Int),.int .i64 1] :: List.replicate (gr - 1) (Wp dn ino)
theorem Z3f {gr sz ino jr:Nat} (F:Fine gr sz ino jr) (S D Hd I:List C) (Sp:Special Tryz.prog gr sz ino jr (Ol gr sz ino jr) (Zee (O0 (Ol gr sz ino jr)) ino gr) S D Hd I) (hfl:(Gv S D Hd I sz ino (Ol gr sz ino jr) (Ol gr sz ino jr).length).all (fun l=>l.all C.flat)=true) (h:Go.Ev.H) :
  Zg 48 [.g (Yw gr sz ino jr)] h (.tup [.c (.slice h.next 0 (Ol gr sz ino jr).length 256),.c (.int .i64 0)]) (h.new (.row 256 (Gv S D Hd I sz ino (Ol gr sz ino jr) (Ol gr sz ino jr).length) false)):=by
 refine Zv.tidy ⟨_,Tryz.func48,by kernel_rfl,of_decide_eq_true (by kernel_rfl)⟩ fun tidy=>?_
 suffices hs:Ya 159 none (q48 []) [] (Jj 0 [.g (Yw gr sz ino jr)] .nil) h fun x ds ts h1=>∃ n,h.next≤n∧n<h1.next∧h1.get n=some (.row 256 (Gv S D Hd I sz ino (Ol gr sz ino jr) (Ol gr sz ino jr).length) false)∧(∀ n,n<h.next→h1.get n=h.get n)∧leave K Tryz.f48 (some (.at x ds ts h1))=some (.val (.tup [.c (.slice n 0 (Ol gr sz ino jr).length 256),.c (.int .i64 0)]) h1) by
  obtain⟨x,ds,ts,h1,g,n,e1,e2,e3,e4,e5⟩:=hs
  exact (Zv.body fits Hh (by kernel_rfl) (by kernel_rfl) (by kernel_rfl) (by kernel_rfl) rfl g e5).row e1 e3 rfl hfl e2 e4
 have hlen:(Ol gr sz ino jr).length≤4000:=by
  rw[Ol,List.length_append,Zdq,Vs F.fit]
  have:=F.all
  omega
 obtain⟨L,hL⟩:∃ L,Ol gr sz ino jr=L:=⟨_,rfl⟩
 have hT:Zit L:=hL ▸ Tz gr sz ino jr
 have e0:Zi (Jj 0 [.g (Yw gr sz ino jr)] .nil) 0=.w (.g (Yw gr sz ino jr)):=by rw[Um]; rfl
 have lg:(Yw gr sz ino jr).length=4:=rfl
 have rg:Zm 4 [Yw gr sz ino jr] 0 4=some (Yw gr sz ino jr):=rfl
 have nslice:Qs (.slice none 0 0)=some (.w (.c .snil)):=rfl
 have e1:Tryz.f48.results.toList=[.tmp 2,.tmp 3]:=rfl
 have mk:=Z13 Hh F (h.new (.row 4 [Yw gr sz ino jr] false))
 have ak:=Z1x Hh F (h.new (.row 4 [Yw gr sz ino jr] false))
 rw[hL] at ak Sp hlen ⊢
 have ms:=Zwi ((h.new (.row 4 [Yw gr sz ino jr] false)).new (.row 4 L false)) S D Hd I sz ino L hlen
 iterate 4 (first|apply Zp|(apply Goes.ops2 fits Hh Za; · simp (decide:=true) only [go_sem,Zl,H.get_put,H.Zd,Ze,Zz,reduceIte,Nat.reduceAdd,Nat.reduceMul,e0,lg,rg,nslice,ms,Yr,Uz,Bq,Bh,gW,Zt,J6,Bn,Vi]<;>rfl))
 (apply Goes.ops2 fits Hh (Zu Za mk); · simp (decide:=true) only [go_sem,Zl,H.get_put,H.Zd,Ze,Zz,reduceIte,Nat.reduceAdd,Nat.reduceMul,Z8,e0,lg,rg,nslice,ms,Yr,Uz,Bq,Bh,gW,Zt,J6,Bn,Vi]<;>rfl)
 iterate 3 (first|apply Zp|apply Z6|(apply Goes.Zn; · simp (decide:=true) only [go_sem,Zl,H.get_put,H.Zd,Ze,Zz,reduceIte,Nat.reduceAdd,Nat.reduceMul,Zx,Z0,asC,Zb,Ye,Z7,e0,lg,rg,nslice,ms,Yr,Uz,Bq,Bh,gW,Zt,J6,Bn,Vi]<;>rfl))
 (apply Goes.ops2 fits Hh (Zu Za ak); · simp (decide:=true) only [go_sem,Zl,H.get_put,H.Zd,Ze,Zz,reduceIte,Nat.reduceAdd,Nat.reduceMul,Z8,e0,lg,rg,nslice,ms,Yr,Uz,Bq,Bh,gW,Zt,J6,Bn,Vi]<;>rfl)
 iterate 8 (first|apply Zp|apply Yk|(apply Goes.ops2 fits Hh Za; · simp (decide:=true) only [go_sem,Zl,H.get_put,H.Zd,Ze,Zz,reduceIte,Nat.reduceAdd,Nat.reduceMul,e0,lg,rg,nslice,ms,Yr,Uz,Bq,Bh,gW,Zt,J6,Bn,Vi]<;>rfl))
 show Ya 159 none (q48 [1,1,1,1,1,0,1,2]) _ _ _ _
 refine (mk0 Hh F h.next (h.next+3) (by omega) gr 0 _ _ (by omega) ?_ ?_ ?_ ?_ (.inl ⟨rfl,?_⟩)).mono ?_
 ·simp only[H.Zc]; omega
 ·simp only[H.Zd,H.Zc]
  rw[if_neg (by omega),if_neg (by omega),if_pos trivial]
 ·simp (decide:=true) only [Zb,reduceIte]
 ·simp (decide:=true) only [Zb,reduceIte]<;>rfl
 ·simp (decide:=true) only [Zb,reduceIte]
 rintro x ds' ts1 h1 ⟨rfl,rfl,up1,kp1,a1,a4,a5,nD,d1,d2,d3,d4⟩
 simp only[H.Zc] at up1
 have f1:Zi ts1 1=.w (.c (.ptr h.next 0)):=by rw[a1]; simp (decide:=true) only [Zb,reduceIte]
 have f4:Zi ts1 4=.w (.c (.slice (h.next+1) 0 L.length 4)):=by rw[a4]; simp (decide:=true) only [Zb,reduceIte,H.Zc]
 have f5:Zi ts1 5=.w (.c (.slice (h.next+2) 0 L.length 256)):=by rw[a5]; simp (decide:=true) only [Zb,reduceIte,H.Zc]
 have hp1:h1.get h.next=some (.row 4 [[.int .i64 gr,.int .i64 sz,.int .i64 ino,.int .i64 jr]] false):=by
  rw[kp1 _ (by omega)]
  simp only[H.Zd,H.Zc]
  rw[if_neg (by omega),if_neg (by omega),if_pos trivial]
  rfl
 have hA1:h1.get (h.next+1)=some (.row 4 L false):=by
  rw[kp1 _ (by omega)]
  simp only[H.Zd,H.Zc]
  rw[if_neg (by omega),if_pos trivial]
 have hO1:h1.get (h.next+2)=some (.row 256 (Gv S D Hd I sz ino L 0) false):=by
  rw[kp1 _ (by omega)]
  simp only[H.Zd,H.Zc]
  rw[if_pos trivial]
 obtain⟨g1,g2,g3,g4,g5,g6,g7,g8,g9,g10,g11⟩:=id F
 rw[hL] at d4
 obtain⟨gr',hgr⟩:∃ gr',gr=gr'+1:=⟨gr - 1,by omega⟩
 have w1:Yq .i64 ((ino:Int) - 1)=.int .i64 ((ino - 1:Nat):Int):=by rw[wrap64 (by omega) (by omega)]; congr 1; omega
 have n0:Ux (some (.int .i64 0))=some 0:=rfl
 have b0:Nat.blt 0 gr=true:=U6 (by omega)
 have wr1:Z9 3 (List.replicate gr (Wp (O0 L) ino)) 1 [.int .i64 ((ino - 1:Nat):Int)]=some ([.int .i64 (O0 L:Nat),.int .i64 ((ino - 1:Nat):Int),.int .i64 0] :: List.replicate (gr - 1) (Wp (O0 L) ino)):=by
  rw[hgr,List.replicate_succ,Nat.add_sub_cancel]
  rfl
 have wr2:Z9 3 ([.int .i64 (O0 L:Nat),.int .i64 ((ino - 1:Nat):Int),.int .i64 0] :: List.replicate (gr - 1) (Wp (O0 L) ino)) 2 [.int .i64 1]=some (Zee (O0 L) ino gr):=rfl
 iterate 8 (first|apply Zp|apply Yk|(apply Goes.ops2 fits Hh Za; · simp (decide:=true) only [go_sem,Zl,H.get_put,H.Zd,Ze,Zz,reduceIte,Nat.reduceAdd,Nat.reduceMul,f1,d3,hp1,d4,w1,n0,b0,wr1,wr2,Fj,geo2,Ji,Oq,Oj,cW,Zro,Z2s,Z3z,Zxe,Z2x,Z2y,Nat.zero_add,Nat.zero_mul,Nat.beq_refl]<;>rfl))
 show Ya 159 none (q48 [1,1,1,1,1,1,1,1,0,1,2]) _ _ _ _
 refine (mk2 Hh F h.next (h.next+1) (h.next+2) nD (by omega) (by omega) (by omega) L (Zee (O0 L) ino gr) S D Hd I Sp hT hlen L.length 0 _ _ (by omega) ?_ ?_ ?_ ?_ ?_ ?_ ?_ ?_ ?_ ?_).mono ?_
 ·rw[H.get_put,if_neg (by omega),H.get_put,if_neg (by omega)]; exact hp1
 ·rw[H.get_put,if_neg (by omega),H.get_put,if_neg (by omega)]; exact hA1
 ·rw[H.get_put,if_pos rfl]
 ·rw[H.get_put,if_neg (by omega),H.get_put,if_neg (by omega)]; exact hO1
 ·simp (decide:=true) only [Zb,reduceIte,f1]
 ·simp (decide:=true) only [Zb,reduceIte,f4]
 ·simp (decide:=true) only [Zb,reduceIte,f5]
 ·simp (decide:=true) only [Zb,reduceIte,d3]
 ·simp (decide:=true) only [Zb,reduceIte]<;>rfl
 ·simp only[H.Zf]; omega
 rintro x ds' ts2 h2 ⟨rfl,rfl,up2,hO2,kp2,k5⟩
 simp only[H.Zf] at up2 kp2
 iterate 3 (first|apply Zp|apply Yb|(apply Goes.ops2 fits Hh Za; · simp (decide:=true) only [go_sem,Zl,H.get_put,H.Zd,Ze,Zz,reduceIte,Nat.reduceAdd,Nat.reduceMul,k5]<;>rfl))
 refine⟨h.next+2,by omega,by omega,hO2,fun m hm=>?_,?_⟩
 ·rw[kp2 m (by omega) (by omega),H.get_put,if_neg (by omega),H.get_put,if_neg (by omega),kp1 m (by omega)]
  simp only[H.Zd,H.Zc]
  rw[if_neg (by omega),if_neg (by omega),if_neg (by omega)]
 ·simp (decide:=true) only [Ot,Y7,finish,e1,Y3,evalW,Z0,asW,Zb,reduceIte,Ui]
end
end Go.Proofs.YtdmendgkbikkaaaGreatDoor
