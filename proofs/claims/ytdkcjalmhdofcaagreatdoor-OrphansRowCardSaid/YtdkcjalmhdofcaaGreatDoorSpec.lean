/- quernref21.Make of a geometry that may be, on the evaluator's level. -/
import Derived.Test.YtdkcjalmhdofcaaGreatDoorBlk
import Derived.Test.YtdkcjalmhdofcaaGreatDoorRGeo
import Derived.Test.YtdkcjalmhdofcaaGreatDoorEvC
import Derived.Test.YtdkcjalmhdofcaaGreatDoorTy
set_option linter.unusedSimpArgs false
set_option linter.unusedVariables false
set_option linter.unusedSectionVars false
set_option maxRecDepth 100000
namespace Go.Proofs.YtdkcjalmhdofcaaGreatDoor
open Go.Ev
noncomputable def q14 (p:List Nat):Code:=piece p (Jz Tryz.f14)
theorem Zae:q14 [1,1,1,1,1,0,1,2]=.loop (q14 [1,1,1,1,1,0,1,2,2]):=by kernel_rfl
theorem Ga:q14 [1,1,1,1,1,1,1,1,0,1,2]=.loop (q14 [1,1,1,1,1,1,1,1,0,1,2,2]):=by kernel_rfl
theorem R6:q14 [1,1,1,1,1,1,1,1,0,1,2,2,1,0,2,1,0,1]=.block 4 (q14 [1,1,1,1,1,1,1,1,0,1,2,2,1,0,2,1,0,1,2]):=by kernel_rfl
theorem Y4:q14 [1,1,1,1,1,1,1,1,0,1,2,2,1,0,2,1,0,1,2]=.loop (q14 [1,1,1,1,1,1,1,1,0,1,2,2,1,0,2,1,0,1,2,2]):=by kernel_rfl
def Uc (sz ino:Nat) (k a:Int) (i:Nat):Bool:=if k=4 then (decide (i<2+ino / 4) || decide (sz≤i)) else if k=5 then (decide (ino≤i) || (decide (i=0)&&decide (a=0))) else false
def upto (f:Nat→Bool) (i:Nat):Nat→Bool:=fun j=>decide (j<i)&&f j
theorem Vk (f:Nat→Bool) (i:Nat) (hi:i<2048) (v:Bool) (hv:v=f i):Z4 1 (Js (upto f i)) i [.bool v]=some (Js (upto f (i+1))):=by
 subst hv
 have hx:(Js (upto f i))[i]? = some [.bool (upto f i i)]:=by simp [Js,hi]
 rw[Zjy hx]
 congr 1
 refine List.ext_getElem (by simp [Js]) fun t h1 h2=>?_
 simp only[List.getElem_set]
 simp only[Js,List.getElem_map,List.getElem_range,upto]
 by_cases e:i=t
 ·subst e; simp
 ·rw[if_neg e]
  congr 3
  simp only[decide_eq_decide]
  omega
theorem Zsd (f:Nat→Bool) (i:Nat) (hv:f i=false):Js (upto f i)=Js (upto f (i+1)):=by
 unfold Js
 refine List.map_congr_left fun t _=>?_
 simp only[upto]
 by_cases e:t=i
 ·subst e; simp [hv]
 ·congr 3
  simp only[decide_eq_decide]
  omega
section
variable (Hh:Hearts K Tryz.prog)
include Hh
theorem mk4 {gr sz ino jr:Nat} (F:Fine gr sz ino jr) (p nA nb b:Nat) (hnp:nb≠p) (hnA:nb≠nA) (L:List (List C)) (roA:Bool) (kd a c d:Int) (hx':L[b]? = some (thing kd a c d)) (hlen:L.length≤4000):∀ (k i:Nat) (ts:Zy) (h:Go.Ev.H),i+k=2048→h.get p=some (.row 4 [[.int .i64 gr,.int .i64 sz,.int .i64 ino,.int .i64 jr]] false)→h.get nA=some (.row 4 L roA)→h.get nb=some (.row 1 (Js (upto (Uc sz ino kd a) i)) false) →
  Zm ts 1=.w (.c (.ptr p 0))→Zm ts 4=.w (.c (.slice nA 0 L.length 4))→Zm ts 8=.w (.c (.int .i64 b))→Zm ts 9=.w (.c (.slice nb 0 2048 1))→Zm ts 10=.w (.c (.int .i64 i))→nb<h.next →
  Goes K Tryz.prog 159 none (q14 [1,1,1,1,1,1,1,1,0,1,2,2,1,0,2,1,0,1,2]) [] ts h fun x ds' ts' h'=>x=.exit 4∧ds'=[]∧h'.next=h.next∧h'.get nb=some (.row 1 (Js (Uc sz ino kd a)) false)∧(∀ m,m≠nb→h'.get m=h.get m)∧∀ s,s≤9→Zm ts' s=Zm ts s:=by
 obtain⟨g1,g2,g3,g4,g5,g6,g7,g8,g9,g10,g11⟩:=F
 intro k
 induction k with
 | zero =>
  intro i ts h hi hp hA hb h1 h4 h8 h9 h10 hnb'
  have ei:i=2048:=by omega
  subst ei
  have eb:Js (upto (Uc sz ino kd a) 2048)=Js (Uc sz ino kd a):=by
   unfold Js
   refine List.map_congr_left fun t ht=>?_
   have:=List.mem_range.1 ht
   simp [upto,this]
  rw[eb] at hb
  iterate 6 (first|apply Goes.seq|apply Goes.exit|apply Goes.loop|((first|apply Goes.Zo|apply Goes.ops2 fits Hh Zb); · simp (decide:=true) only [go_sem,Zr,H.get_put,H.Zf,Za,Zz,reduceIte,Nat.reduceAdd,Nat.reduceMul,Zx,Z0,asC,Ze,Ya,Z7,h10]<;>rfl))
  refine⟨rfl,rfl,rfl,hb,fun _ _=>rfl,fun s hs=>?_⟩
  simp (decide:=true) only [Yk hs]
 | succ k ih =>
  intro i ts h hi hp hA hb h1 h4 h8 h9 h10 hnb'
  have hbl:b<L.length:=by
   rcases Nat.lt_or_ge b L.length with h2|h2
   ·exact h2
   ·rw[List.getElem?_eq_none h2] at hx'; cases hx'
  have r0:read1 4 L (b * 4)=some (.int .u8 kd):=Dn (sz:=4) (j:=0) (by omega) hx'
  have r1:read1 4 L (b * 4+1)=some (.int .i64 a):=Dn (sz:=4) (j:=1) (by omega) hx'
  have c1:decide ((i:Int)<2048)=true:=decide_eq_true (by omega)
  have b1:Nat.blt b L.length=true:=Un hbl
  have b2:Nat.blt i 2048=true:=Un (by omega)
  have q1:Fe .i64 (ino:Int) 4=some (.int .i64 ((ino / 4:Nat):Int)):=by
   show some (Yn .i64 ((ino:Int).tdiv 4))=_
   rw[show (ino:Int).tdiv 4=((ino / 4:Nat):Int) from rfl,wrap64 (by omega) (by omega)]
  have w0:Yn .i64 (2+((ino / 4:Nat):Int))=.int .i64 ((2+ino / 4:Nat):Int):=by rw[wrap64 (by omega) (by omega)]; congr 1
  have w1:Yn .i64 ((i:Int)+1)=.int .i64 ((i+1:Nat):Int):=by rw[wrap64 (by omega) (by omega)]; congr 1
  have hn1:nA≠nb:=Ne.symm hnA
  by_cases k4:kd=4
  ·have e4:(kd == 4)=true:=by rw[k4]; rfl
   have e5:(kd == 5)=false:=by rw[k4]; rfl
   by_cases hi1:i<2+ino / 4
   ·have c2:decide ((i:Int)<((2+ino / 4:Nat):Int))=true:=decide_eq_true (by omega)
    have wr:=Vk (Uc sz ino kd a) i (by omega) true (by simp [Uc,k4,hi1])
    iterate 18 (first|apply Goes.seq|apply Goes.skip|apply Goes.block|apply Goes.loop|((first|apply Goes.Zo|apply Goes.ops2 fits Hh Zb); · simp (decide:=true) only [go_sem,Zr,H.get_put,H.Zf,Za,Zz,reduceIte,Nat.reduceAdd,Nat.reduceMul,Zx,Z0,asC,Ze,Ya,Z7,h1,h4,h8,h9,h10,hp,hA,hb,hn1,c1,b1,b2,r0,r1,q1,w0,w1,wr,e4,e5,c2,Zah,Ep,geo1,geo2,Fq,Ff,Yx,Ja,Jb,Jt,L9,T9,Tq,Zcg,Y9,U0,Uy,Du,Mi,Sn,cW,Nat.zero_add,Nat.add_zero,Nat.mul_one,Nat.beq_refl]<;>rfl))
    show Goes K Tryz.prog 159 none (.loop (q14 [1,1,1,1,1,1,1,1,0,1,2,2,1,0,2,1,0,1,2,2])) _ _ _ _
    rw[←Y4]
    refine (ih (i+1) _ _ (by omega) ?_ ?_ ?_ ?_ ?_ ?_ ?_ ?_ ?_).mono ?_
    ·rw[H.get_put,if_neg (Ne.symm hnp)]; exact hp
    ·rw[H.get_put,if_neg (Ne.symm hnA)]; exact hA
    ·rw[H.get_put,if_pos rfl]
    ·simp (decide:=true) only [Ze,reduceIte,h1]
    ·simp (decide:=true) only [Ze,reduceIte,h4]
    ·simp (decide:=true) only [Ze,reduceIte,h8]
    ·simp (decide:=true) only [Ze,reduceIte,h9]
    ·simp (decide:=true) only [Ze,reduceIte]
    ·exact hnb'
    ·rintro x ds' ts' h' ⟨e1,e2,e3,e4,e5,e6⟩
     refine⟨e1,e2,e3,e4,fun m hm=>?_,fun s hs=>?_⟩
     ·rw[e5 m hm,H.get_put,if_neg hm]
     ·rw[e6 s hs]
      simp (decide:=true) only [Yk hs]
   ·have c2:decide ((i:Int)<((2+ino / 4:Nat):Int))=false:=decide_eq_false (by omega)
    have wr:=Vk (Uc sz ino kd a) i (by omega) (decide ((i:Int) ≥ (sz:Int))) (by simp [Uc,k4,hi1])
    iterate 18 (first|apply Goes.seq|apply Goes.skip|apply Goes.block|apply Goes.loop|((first|apply Goes.Zo|apply Goes.ops2 fits Hh Zb); · simp (decide:=true) only [go_sem,Zr,H.get_put,H.Zf,Za,Zz,reduceIte,Nat.reduceAdd,Nat.reduceMul,Zx,Z0,asC,Ze,Ya,Z7,h1,h4,h8,h9,h10,hp,hA,hb,hn1,c1,b1,b2,r0,r1,q1,w0,w1,wr,e4,e5,c2,Zah,Ep,geo1,geo2,Fq,Ff,Yx,Ja,Jb,Jt,L9,T9,Tq,Zcg,Y9,U0,Uy,Du,Mi,Sn,cW,Nat.zero_add,Nat.add_zero,Nat.mul_one,Nat.beq_refl]<;>rfl))
    show Goes K Tryz.prog 159 none (.loop (q14 [1,1,1,1,1,1,1,1,0,1,2,2,1,0,2,1,0,1,2,2])) _ _ _ _
    rw[←Y4]
    refine (ih (i+1) _ _ (by omega) ?_ ?_ ?_ ?_ ?_ ?_ ?_ ?_ ?_).mono ?_
    ·rw[H.get_put,if_neg (Ne.symm hnp)]; exact hp
    ·rw[H.get_put,if_neg (Ne.symm hnA)]; exact hA
    ·rw[H.get_put,if_pos rfl]
    ·simp (decide:=true) only [Ze,reduceIte,h1]
    ·simp (decide:=true) only [Ze,reduceIte,h4]
    ·simp (decide:=true) only [Ze,reduceIte,h8]
    ·simp (decide:=true) only [Ze,reduceIte,h9]
    ·simp (decide:=true) only [Ze,reduceIte]
    ·exact hnb'
    ·rintro x ds' ts' h' ⟨e1,e2,e3,e4,e5,e6⟩
     refine⟨e1,e2,e3,e4,fun m hm=>?_,fun s hs=>?_⟩
     ·rw[e5 m hm,H.get_put,if_neg hm]
     ·rw[e6 s hs]
      simp (decide:=true) only [Yk hs]
  ·have e4:(kd == 4)=false:=by simpa using k4
   by_cases k5:kd=5
   ·have e5:(kd == 5)=true:=by rw[k5]; rfl
    by_cases hi1:ino≤i
    ·have c2:decide ((i:Int) ≥ (ino:Int))=true:=decide_eq_true (by omega)
     have wr:=Vk (Uc sz ino kd a) i (by omega) true (by simp [Uc,k5,hi1])
     iterate 18 (first|apply Goes.seq|apply Goes.skip|apply Goes.block|apply Goes.loop|((first|apply Goes.Zo|apply Goes.ops2 fits Hh Zb); · simp (decide:=true) only [go_sem,Zr,H.get_put,H.Zf,Za,Zz,reduceIte,Nat.reduceAdd,Nat.reduceMul,Zx,Z0,asC,Ze,Ya,Z7,h1,h4,h8,h9,h10,hp,hA,hb,hn1,c1,b1,b2,r0,r1,q1,w0,w1,wr,e4,e5,c2,Zah,Ep,geo1,geo2,Fq,Ff,Yx,Ja,Jb,Jt,L9,T9,Tq,Zcg,Y9,U0,Uy,Du,Mi,Sn,cW,Nat.zero_add,Nat.add_zero,Nat.mul_one,Nat.beq_refl]<;>rfl))
     show Goes K Tryz.prog 159 none (.loop (q14 [1,1,1,1,1,1,1,1,0,1,2,2,1,0,2,1,0,1,2,2])) _ _ _ _
     rw[←Y4]
     refine (ih (i+1) _ _ (by omega) ?_ ?_ ?_ ?_ ?_ ?_ ?_ ?_ ?_).mono ?_
     ·rw[H.get_put,if_neg (Ne.symm hnp)]; exact hp
     ·rw[H.get_put,if_neg (Ne.symm hnA)]; exact hA
     ·rw[H.get_put,if_pos rfl]
     ·simp (decide:=true) only [Ze,reduceIte,h1]
     ·simp (decide:=true) only [Ze,reduceIte,h4]
     ·simp (decide:=true) only [Ze,reduceIte,h8]
     ·simp (decide:=true) only [Ze,reduceIte,h9]
     ·simp (decide:=true) only [Ze,reduceIte]
     ·exact hnb'
     ·rintro x ds' ts' h' ⟨e1,e2,e3,e4,e5,e6⟩
      refine⟨e1,e2,e3,e4,fun m hm=>?_,fun s hs=>?_⟩
      ·rw[e5 m hm,H.get_put,if_neg hm]
      ·rw[e6 s hs]
       simp (decide:=true) only [Yk hs]
    ·have c2:decide ((i:Int) ≥ (ino:Int))=false:=decide_eq_false (by omega)
     by_cases hi0:i=0
     ·have c3:(((i:Nat):Int) == 0)=true:=by rw[hi0]; rfl
      have wr:=Vk (Uc sz ino kd a) i (by omega) (a == 0) (by
       rw[Uc,if_neg k4,if_pos k5,decide_eq_false hi1,decide_eq_true hi0]
       rfl)
      iterate 18 (first|apply Goes.seq|apply Goes.skip|apply Goes.block|apply Goes.loop|((first|apply Goes.Zo|apply Goes.ops2 fits Hh Zb); · simp (decide:=true) only [go_sem,Zr,H.get_put,H.Zf,Za,Zz,reduceIte,Nat.reduceAdd,Nat.reduceMul,Zx,Z0,asC,Ze,Ya,Z7,h1,h4,h8,h9,h10,hp,hA,hb,hn1,c1,b1,b2,r0,r1,q1,w0,w1,wr,e4,e5,c2,c3,Zah,Ep,geo1,geo2,Fq,Ff,Yx,Ja,Jb,Jt,L9,T9,Tq,Zcg,Y9,U0,Uy,Du,Mi,Sn,cW,Nat.zero_add,Nat.add_zero,Nat.mul_one,Nat.beq_refl]<;>rfl))
      show Goes K Tryz.prog 159 none (.loop (q14 [1,1,1,1,1,1,1,1,0,1,2,2,1,0,2,1,0,1,2,2])) _ _ _ _
      rw[←Y4]
      refine (ih (i+1) _ _ (by omega) ?_ ?_ ?_ ?_ ?_ ?_ ?_ ?_ ?_).mono ?_
      ·rw[H.get_put,if_neg (Ne.symm hnp)]; exact hp
      ·rw[H.get_put,if_neg (Ne.symm hnA)]; exact hA
      ·rw[H.get_put,if_pos rfl]
      ·simp (decide:=true) only [Ze,reduceIte,h1]
      ·simp (decide:=true) only [Ze,reduceIte,h4]
      ·simp (decide:=true) only [Ze,reduceIte,h8]
      ·simp (decide:=true) only [Ze,reduceIte,h9]
      ·simp (decide:=true) only [Ze,reduceIte]
      ·exact hnb'
      ·rintro x ds' ts' h' ⟨e1,e2,e3,e4,e5,e6⟩
       refine⟨e1,e2,e3,e4,fun m hm=>?_,fun s hs=>?_⟩
       ·rw[e5 m hm,H.get_put,if_neg hm]
       ·rw[e6 s hs]
        simp (decide:=true) only [Yk hs]
     ·have c3:(((i:Nat):Int) == 0)=false:=by simpa using hi0
      have wr:=Vk (Uc sz ino kd a) i (by omega) false (by simp [Uc,k5,hi1,hi0])
      iterate 18 (first|apply Goes.seq|apply Goes.skip|apply Goes.block|apply Goes.loop|((first|apply Goes.Zo|apply Goes.ops2 fits Hh Zb); · simp (decide:=true) only [go_sem,Zr,H.get_put,H.Zf,Za,Zz,reduceIte,Nat.reduceAdd,Nat.reduceMul,Zx,Z0,asC,Ze,Ya,Z7,h1,h4,h8,h9,h10,hp,hA,hb,hn1,c1,b1,b2,r0,r1,q1,w0,w1,wr,e4,e5,c2,c3,Zah,Ep,geo1,geo2,Fq,Ff,Yx,Ja,Jb,Jt,L9,T9,Tq,Zcg,Y9,U0,Uy,Du,Mi,Sn,cW,Nat.zero_add,Nat.add_zero,Nat.mul_one,Nat.beq_refl]<;>rfl))
      show Goes K Tryz.prog 159 none (.loop (q14 [1,1,1,1,1,1,1,1,0,1,2,2,1,0,2,1,0,1,2,2])) _ _ _ _
      rw[←Y4]
      refine (ih (i+1) _ _ (by omega) ?_ ?_ ?_ ?_ ?_ ?_ ?_ ?_ ?_).mono ?_
      ·rw[H.get_put,if_neg (Ne.symm hnp)]; exact hp
      ·rw[H.get_put,if_neg (Ne.symm hnA)]; exact hA
      ·rw[H.get_put,if_pos rfl]
      ·simp (decide:=true) only [Ze,reduceIte,h1]
      ·simp (decide:=true) only [Ze,reduceIte,h4]
      ·simp (decide:=true) only [Ze,reduceIte,h8]
      ·simp (decide:=true) only [Ze,reduceIte,h9]
      ·simp (decide:=true) only [Ze,reduceIte]
      ·exact hnb'
      ·rintro x ds' ts' h' ⟨e1,e2,e3,e4,e5,e6⟩
       refine⟨e1,e2,e3,e4,fun m hm=>?_,fun s hs=>?_⟩
       ·rw[e5 m hm,H.get_put,if_neg hm]
       ·rw[e6 s hs]
        simp (decide:=true) only [Yk hs]
   ·have e5:(kd == 5)=false:=by simpa using k5
    have hskip:h.get nb=some (.row 1 (Js (upto (Uc sz ino kd a) (i+1))) false):=by rw[←Zsd _ _ (by simp [Uc,k4,k5])]; exact hb
    have wr:=hskip
    iterate 18 (first|apply Goes.seq|apply Goes.skip|apply Goes.block|apply Goes.loop|((first|apply Goes.Zo|apply Goes.ops2 fits Hh Zb); · simp (decide:=true) only [go_sem,Zr,H.get_put,H.Zf,Za,Zz,reduceIte,Nat.reduceAdd,Nat.reduceMul,Zx,Z0,asC,Ze,Ya,Z7,h1,h4,h8,h9,h10,hp,hA,hb,hn1,c1,b1,b2,r0,r1,q1,w0,w1,wr,e4,e5,Zah,Ep,geo1,geo2,Fq,Ff,Yx,Ja,Jb,Jt,L9,T9,Tq,Zcg,Y9,U0,Uy,Du,Mi,Sn,cW,Nat.zero_add,Nat.add_zero,Nat.mul_one,Nat.beq_refl]<;>rfl))
    show Goes K Tryz.prog 159 none (.loop (q14 [1,1,1,1,1,1,1,1,0,1,2,2,1,0,2,1,0,1,2,2])) _ _ _ _
    rw[←Y4]
    refine (ih (i+1) _ _ (by omega) ?_ ?_ ?_ ?_ ?_ ?_ ?_ ?_ ?_).mono ?_
    ·exact hp
    ·exact hA
    ·exact hskip
    ·simp (decide:=true) only [Ze,reduceIte,h1]
    ·simp (decide:=true) only [Ze,reduceIte,h4]
    ·simp (decide:=true) only [Ze,reduceIte,h8]
    ·simp (decide:=true) only [Ze,reduceIte,h9]
    ·simp (decide:=true) only [Ze,reduceIte]
    ·exact hnb'
    ·rintro x ds' ts' h' ⟨e1,e2,e3,e4,e5,e6⟩
     refine⟨e1,e2,e3,e4,e5,fun s hs=>?_⟩
     rw[e6 s hs]
     simp (decide:=true) only [Yk hs]
end
end Go.Proofs.YtdkcjalmhdofcaaGreatDoor
set_option maxRecDepth 100000
namespace Go.Proofs.YtdkcjalmhdofcaaGreatDoor
open Go.Ev
def Ng:List C:=List.replicate 256 (.int .u8 0)
def Zk3 (S D Hd I:List C) (sz ino b:Nat) (x:List C):List C:=match x with
 | [.int _ k,.int _ a,_,.int _ d]=>if b=0 then S else if b=1 then D else if b=2 then Hd else if d=1 then I else pack (Uc sz ino k a)
 | _=>[]
def O8 (S D Hd I:List C) (sz ino:Nat) (L:List (List C)) (i:Nat):List (List C):=(List.range L.length).map fun t=>if t<i then Zk3 S D Hd I sz ino t (L[t]?.getD []) else Ng
theorem Zw7 (S D Hd I:List C) (sz ino:Nat) (L:List (List C)) (i:Nat):(O8 S D Hd I sz ino L i).length=L.length:=by simp [O8]
theorem Zvf (S D Hd I:List C) (sz ino:Nat) (L:List (List C)) (i:Nat) (hi:i<L.length):(O8 S D Hd I sz ino L i)[i]? = some Ng:=by simp [O8,hi]
theorem Tp (S D Hd I:List C) (sz ino:Nat) (L:List (List C)) (i:Nat) (x y:List C) (hx:L[i]? = some x) (hy:y=Zk3 S D Hd I sz ino i x):(O8 S D Hd I sz ino L i).set i y=O8 S D Hd I sz ino L (i+1):=by
 subst hy
 refine List.ext_getElem (by simp [O8]) fun t h1 h2=>?_
 simp only[List.getElem_set]
 simp only[O8,List.getElem_map,List.getElem_range]
 by_cases e:i=t
 ·subst e
  simp [hx]
 ·rw[if_neg e]
  by_cases h3:t<i
  ·rw[if_pos h3,if_pos (by omega)]
  ·rw[if_neg h3,if_neg (by omega)]
theorem J3:K.types.get 54=some ti54:=by kernel_rfl
theorem Uu:ti54.desc=.slice 60:=rfl
theorem Zyy:Yz K 123=some ti4:=by kernel_rfl
theorem Zxp (h:Go.Ev.H) (f:Nat→Bool):Jw h (some ti4) (some 2048) (some 2048)=some (.w (.c (.slice h.next 0 2048 1)),h.new (.row 1 (Js (upto f 0)) false)):=by
 have e:List.replicate 2048 ti4.zero.cells=Js (upto f 0):=by
  refine List.ext_getElem (by rw[List.length_replicate]; simp [Js]) fun t h1 h2=>?_
  rw[List.getElem_replicate]
  simp only[Js,List.getElem_map,upto]
  rfl
 show some (V.w (.c (.slice h.next 0 2048 1)),h.new (.row 1 (List.replicate 2048 ti4.zero.cells) false))=_
 rw[e]
theorem Zau (a b c d:C):Z9 K 116 (some [(0,.g [a,b,c,d])])=some (.g [a,b,c,d,.int .u32 0]):=by kernel_rfl
noncomputable def Zvy:List C:=match Z9 K 132 (some [(0,.c (.int .u32 1))]) with
 | some (.g l)=>l
 | _=>[]
theorem Zc1:Z9 K 132 (some [(0,.c (.int .u32 1))])=some (.g Zvy):=by kernel_rfl
noncomputable def Zze:List C:=match Z9 K 47 (some [(0,.c (.int .u8 2)),(1,.c (.int .i64 1)),(2,.c (.int .u32 1))]) with
 | some (.g l)=>l
 | _=>[]
theorem Zhx:Z9 K 47 (some [(0,.c (.int .u8 2)),(1,.c (.int .i64 1)),(2,.c (.int .u32 1))])=some (.g Zze):=by kernel_rfl
structure Special (P:Program) (gr sz ino jr:Nat) (L DL:List (List C)) (S D Hd I:List C):Prop where
 s:∀ h:Go.Ev.H,Zg K P 53 [.g [.int .i64 gr,.int .i64 sz,.int .i64 ino,.int .i64 jr,.int .u32 0]] h (.tup [.g S,.c (.int .i64 0)]) h
 d:∀ (h:Go.Ev.H) (n:Nat),h.get n=some (.row 3 DL false)→Zg K P 54 [.g (Yo gr sz ino jr),.c (.slice n 0 gr 3)] h (.tup [.g D,.c (.int .i64 0)]) h
 hd:∀ h:Go.Ev.H,Zg K P 55 [.g Zvy] h (.tup [.g Hd,.c (.int .i64 0)]) h
 i:∀ (h:Go.Ev.H) (b:Nat) (kd a c:Int),L[b]? = some (thing kd a c 1)→Zg K P 56 [.g (pack (Uc sz ino kd a)),.c (.int .i64 0),.g Zze] h (.tup [.g I,.c (.int .i64 0)]) h
 ls:S.length=256
 ld:D.length=256
 lh:Hd.length=256
 li:I.length=256
section
variable (Hh:Hearts K Tryz.prog)
include Hh
theorem mk2 {gr sz ino jr:Nat} (F:Fine gr sz ino jr) (p nA nO nD:Nat) (h1O:nO≠p) (h2O:nO≠nA) (h3O:nO≠nD) (L DL:List (List C)) (S D Hd I:List C) (Sp:Special Tryz.prog gr sz ino jr L DL S D Hd I) (hT:Zjo L) (hlen:L.length≤4000):∀ (k b:Nat) (ts:Zy) (h:Go.Ev.H),b+k=L.length→h.get p=some (.row 4 [Yo gr sz ino jr] false)→h.get nA=some (.row 4 L false)→h.get nD=some (.row 3 DL false)→h.get nO=some (.row 256 (O8 S D Hd I sz ino L b) false) →
  Zm ts 1=.w (.c (.ptr p 0))→Zm ts 4=.w (.c (.slice nA 0 L.length 4))→Zm ts 5=.w (.c (.slice nO 0 L.length 256))→Zm ts 6=.w (.c (.slice nD 0 gr 3))→Zm ts 8=.w (.c (.int .i64 b))→(p<h.next∧nA<h.next∧nO<h.next∧nD<h.next) →
  Goes K Tryz.prog 159 none (q14 [1,1,1,1,1,1,1,1,0,1,2]) [] ts h fun x ds' ts' h'=>x=.exit 2∧ds'=[]∧h.next≤h'.next∧h'.get nO=some (.row 256 (O8 S D Hd I sz ino L L.length) false)∧(∀ m,m≠nO→m<h.next→h'.get m=h.get m)∧Zm ts' 5=.w (.c (.slice nO 0 L.length 256)):=by
 intro k
 induction k with
 | zero =>
  intro b ts h hb hp hA hD hO h1 h4 h5 h6 h8 hlt
  have eb:b=L.length:=by omega
  subst eb
  have c1:decide ((L.length:Int)<(L.length:Int))=false:=decide_eq_false (by omega)
  iterate 6 (first|apply Goes.seq|apply Goes.exit|apply Goes.loop|((first|apply Goes.Zo|apply Goes.ops2 fits Hh Zb); · simp (decide:=true) only [go_sem,Zr,H.get_put,H.Zf,Za,Zz,reduceIte,Nat.reduceAdd,Nat.reduceMul,Zx,Z0,asC,Ze,Ya,Z7,h4,h8,c1,Zn,Yg,Ba]<;>rfl))
  refine⟨rfl,rfl,Nat.le_refl _,hO,fun _ _ _=>rfl,?_⟩
  simp (decide:=true) only [Ze,reduceIte,h5]
 | succ k ih =>
  intro b ts h hb hp hA hD hO h1 h4 h5 h6 h8 hlt
  have hbl:b<L.length:=by omega
  obtain⟨kd,a,c,d,hx⟩:=hT L[b] (List.getElem_mem hbl)
  have hx':L[b]? = some (thing kd a c d):=by rw[List.getElem?_eq_getElem hbl,hx]
  have c1:decide ((b:Int)<(L.length:Int))=true:=decide_eq_true (by omega)
  have n2048:Uf (some (.int .i64 2048))=some 2048:=rfl
  have ms:=Zxp h (Uc sz ino kd a)
  iterate 13 (first|apply Goes.seq|apply Goes.skip|apply Goes.block|apply Goes.loop|((first|apply Goes.Zo|apply Goes.ops2 fits Hh Zb); · simp (decide:=true) only [go_sem,Zr,H.get_put,H.Zf,Za,Zz,reduceIte,Nat.reduceAdd,Nat.reduceMul,Zx,Z0,asC,Ze,Ya,Z7,h4,h8,c1,ms,n2048,Zn,Yg,Ba,Zyy]<;>rfl))
  show Goes K Tryz.prog 159 none (q14 [1,1,1,1,1,1,1,1,0,1,2,2,1,0,2,1,0,1]) _ _ _ _
  rw[R6]
  refine Goes.block ((mk4 Hh F p nA h.next b (by omega) (by omega) L false kd a c d hx' hlen 2048 0 _ _ rfl ?_ ?_ ?_ ?_ ?_ ?_ ?_ ?_ ?_).mono ?_)
  ·rw[H.Zf,if_neg (by omega)]; exact hp
  ·rw[H.Zf,if_neg (by omega)]; exact hA
  ·rw[H.Zf,if_pos rfl]
  ·simp (decide:=true) only [Ze,reduceIte,h1]
  ·simp (decide:=true) only [Ze,reduceIte,h4]
  ·simp (decide:=true) only [Ze,reduceIte,h8]
  ·simp (decide:=true) only [Ze,reduceIte]
  ·simp (decide:=true) only [Ze,reduceIte]
   rfl
  ·rw[H.Zc]; omega
  rintro x ds' ts2 h2 ⟨rfl,rfl,hn2,hb2,hk2,low⟩
  rw[H.Zc] at hn2
  have k1:Zm ts2 1=.w (.c (.ptr p 0)):=by rw[low 1 (by decide)]; simp (decide:=true) only [Ze,reduceIte,h1]
  have k4:Zm ts2 4=.w (.c (.slice nA 0 L.length 4)):=by rw[low 4 (by decide)]; simp (decide:=true) only [Ze,reduceIte,h4]
  have k5:Zm ts2 5=.w (.c (.slice nO 0 L.length 256)):=by rw[low 5 (by decide)]; simp (decide:=true) only [Ze,reduceIte,h5]
  have k6:Zm ts2 6=.w (.c (.slice nD 0 gr 3)):=by rw[low 6 (by decide)]; simp (decide:=true) only [Ze,reduceIte,h6]
  have k8:Zm ts2 8=.w (.c (.int .i64 b)):=by rw[low 8 (by decide)]; simp (decide:=true) only [Ze,reduceIte,h8]
  have k9:Zm ts2 9=.w (.c (.slice h.next 0 2048 1)):=by rw[low 9 (by decide)]; simp (decide:=true) only [Ze,reduceIte]
  have hp2:h2.get p=some (.row 4 [[.int .i64 gr,.int .i64 sz,.int .i64 ino,.int .i64 jr]] false):=by rw[hk2 _ (by omega),H.Zf,if_neg (by omega)]; exact hp
  have hA2:h2.get nA=some (.row 4 L false):=by rw[hk2 _ (by omega),H.Zf,if_neg (by omega)]; exact hA
  have hD2:h2.get nD=some (.row 3 DL false):=by rw[hk2 _ (by omega),H.Zf,if_neg (by omega)]; exact hD
  have hO2:h2.get nO=some (.row 256 (O8 S D Hd I sz ino L b) false):=by rw[hk2 _ (by omega),H.Zf,if_neg (by omega)]; exact hO
  have b1:Nat.blt b L.length=true:=Un hbl
  have lp:(pack (Uc sz ino kd a)).length=256:=by simp [pack]
  have wr1:Z4 256 (O8 S D Hd I sz ino L b) (b * 256) (pack (Uc sz ino kd a))=some ((O8 S D Hd I sz ino L b).set b (pack (Uc sz ino kd a))):=Ez lp (by omega) (Zvf _ _ _ _ _ _ _ _ hbl) (by simp [Ng])
  have hE:((O8 S D Hd I sz ino L b).set b (pack (Uc sz ino kd a)))[b]? = some (pack (Uc sz ino kd a)):=by
   rw[List.getElem?_set_self (by rw[Zw7]; exact hbl)]
  have w1:Yn .i64 ((b:Int)+1)=.int .i64 ((b+1:Nat):Int):=by rw[wrap64 (by omega) (by omega)]; congr 1
  have hn1:p≠nO:=Ne.symm h1O
  have hn2':nA≠nO:=Ne.symm h2O
  have hn3:nD≠nO:=Ne.symm h3O
  by_cases b0:b=0
  ·have z0:((b:Int) == 0)=true:=by rw[b0]; rfl
   have z1:=z0
   have z2:=z0
   have setb:=Tp S D Hd I sz ino L b _ S hx' (by rw[b0]; rfl)
   have wr2:Z4 256 ((O8 S D Hd I sz ino L b).set b (pack (Uc sz ino kd a))) (b * 256) S=some (((O8 S D Hd I sz ino L b).set b (pack (Uc sz ino kd a))).set b S):=Ez Sp.ls (by omega) hE lp
   have ls:=Sp.ls
   have rg:Zd 4 [[C.int .i64 gr,.int .i64 sz,.int .i64 ino,.int .i64 jr]] 0 4=some [.int .i64 gr,.int .i64 sz,.int .i64 ino,.int .i64 jr]:=rfl
   apply Goes.seq
   (apply Goes.ops2 fits Hh (Zt Zb (Zai Hh (Uc sz ino kd a) h.next false h2 hb2)); · simp (decide:=true) only [go_sem,Zr,H.get_put,H.Zf,Za,Zz,reduceIte,Nat.reduceAdd,Nat.reduceMul,Zw,k1,k4,k5,k6,k8,k9,hp2,hA2,hD2,hO2,b1,wr1,lp,w1,z0,z1,z2,wr2,ls,rg,hn1,hn2',Yx,Ja,Jb,Jt,Ut,J3,Uu,J2,Uv,Oi,Y9,U0,Uy,Uh,G8,Gz,cW,gW,Nat.zero_add,Nat.add_zero,Nat.beq_refl,Zau]<;>rfl)
   iterate 4 (first|apply Goes.seq|apply Goes.block|((first|apply Goes.Zo|apply Goes.ops2 fits Hh Zb); · simp (decide:=true) only [go_sem,Zr,H.get_put,H.Zf,Za,Zz,reduceIte,Nat.reduceAdd,Nat.reduceMul,Zx,Z0,asC,Ze,Ya,Z7,k1,k4,k5,k6,k8,k9,hp2,hA2,hD2,hO2,b1,wr1,lp,w1,z0,z1,z2,wr2,ls,rg,hn1,hn2',Yx,Ja,Jb,Jt,Ut,J3,Uu,J2,Uv,Oi,Y9,U0,Uy,Uh,G8,Gz,cW,gW,Nat.zero_add,Nat.add_zero,Nat.beq_refl,Zau]<;>rfl))
   (apply Goes.ops2 fits Hh (Zt Zb (Sp.s (h2.put nO (.row 256 ((O8 S D Hd I sz ino L b).set b (pack (Uc sz ino kd a))) false)))); · simp (decide:=true) only [go_sem,Zr,H.get_put,H.Zf,Za,Zz,reduceIte,Nat.reduceAdd,Nat.reduceMul,Zw,k1,k4,k5,k6,k8,k9,hp2,hA2,hD2,hO2,b1,wr1,lp,w1,z0,z1,z2,wr2,ls,rg,hn1,hn2',Yx,Ja,Jb,Jt,Ut,J3,Uu,J2,Uv,Oi,Y9,U0,Uy,Uh,G8,Gz,cW,gW,Nat.zero_add,Nat.add_zero,Nat.beq_refl,Zau]<;>rfl)
   (apply Goes.ops2 fits Hh Zb; · simp (decide:=true) only [go_sem,Zr,H.get_put,H.Zf,Za,Zz,reduceIte,Nat.reduceAdd,Nat.reduceMul,k1,k4,k5,k6,k8,k9,hp2,hA2,hD2,hO2,b1,wr1,lp,w1,z0,z1,z2,wr2,ls,rg,hn1,hn2',Yx,Ja,Jb,Jt,Ut,J3,Uu,J2,Uv,Oi,Y9,U0,Uy,Uh,G8,Gz,cW,gW,Nat.zero_add,Nat.add_zero,Nat.beq_refl,Zau]<;>rfl)
   show Goes K Tryz.prog 159 none (.loop (q14 [1,1,1,1,1,1,1,1,0,1,2,2])) _ _ _ _
   rw[←Ga]
   refine (ih (b+1) _ _ (by omega) ?_ ?_ ?_ ?_ ?_ ?_ ?_ ?_ ?_ ?_).mono ?_
   ·rw[H.get_put,if_neg (by omega),H.get_put,if_neg (by omega),hk2 _ (by omega),H.Zf,if_neg (by omega)]; exact hp
   ·rw[H.get_put,if_neg (by omega),H.get_put,if_neg (by omega),hk2 _ (by omega),H.Zf,if_neg (by omega)]; exact hA
   ·rw[H.get_put,if_neg (by omega),H.get_put,if_neg (by omega),hk2 _ (by omega),H.Zf,if_neg (by omega)]; exact hD
   ·rw[H.get_put,if_pos rfl,List.set_set,setb]
   ·simp (decide:=true) only [Ze,reduceIte,k1]
   ·simp (decide:=true) only [Ze,reduceIte,k4]
   ·simp (decide:=true) only [Ze,reduceIte,k5]
   ·simp (decide:=true) only [Ze,reduceIte,k6]
   ·simp (decide:=true) only [Ze,reduceIte]
   ·simp only[H.Zh]; omega
   ·rintro x ds' ts' h' ⟨e1,e2,e3,e4,e5,e6⟩
    simp only[H.Zh] at e3 e5
    refine⟨e1,e2,by omega,e4,fun m hm hlt=>?_,?_⟩
    ·rw[e5 m hm (by omega)]
     rw[H.get_put,if_neg (by omega),H.get_put,if_neg (by omega),hk2 _ (by omega),H.Zf,if_neg (by omega)]
    ·exact e6
  by_cases b1':b=1
  ·have z0:((b:Int) == 0)=false:=by rw[b1']; rfl
   have z1:((b:Int) == 1)=true:=by rw[b1']; rfl
   have z2:=z0
   have setb:=Tp S D Hd I sz ino L b _ D hx' (by rw[b1']; rfl)
   have wr2:Z4 256 ((O8 S D Hd I sz ino L b).set b (pack (Uc sz ino kd a))) (b * 256) D=some (((O8 S D Hd I sz ino L b).set b (pack (Uc sz ino kd a))).set b D):=Ez Sp.ld (by omega) hE lp
   have ls:=Sp.ld
   have rg:Zd 4 [[C.int .i64 gr,.int .i64 sz,.int .i64 ino,.int .i64 jr]] 0 4=some [.int .i64 gr,.int .i64 sz,.int .i64 ino,.int .i64 jr]:=rfl
   have dD:Zg K Tryz.prog 54 [.g [.int .i64 gr,.int .i64 sz,.int .i64 ino,.int .i64 jr],.c (.slice nD 0 gr 3)] (h2.put nO (.row 256 ((O8 S D Hd I sz ino L b).set b (pack (Uc sz ino kd a))) false)) (.tup [.g D,.c (.int .i64 0)]) (h2.put nO (.row 256 ((O8 S D Hd I sz ino L b).set b (pack (Uc sz ino kd a))) false)):=Sp.d _ nD (by rw[H.get_put,if_neg hn3]; exact hD2)
   apply Goes.seq
   (apply Goes.ops2 fits Hh (Zt Zb (Zai Hh (Uc sz ino kd a) h.next false h2 hb2)); · simp (decide:=true) only [go_sem,Zr,H.get_put,H.Zf,Za,Zz,reduceIte,Nat.reduceAdd,Nat.reduceMul,Zw,k1,k4,k5,k6,k8,k9,hp2,hA2,hD2,hO2,b1,wr1,lp,w1,z0,z1,z2,wr2,ls,rg,hn1,hn2',Yx,Ja,Jb,Jt,Ut,J3,Uu,J2,Uv,Oi,Y9,U0,Uy,Uh,G8,Gz,cW,gW,Nat.zero_add,Nat.add_zero,Nat.beq_refl]<;>rfl)
   iterate 7 (first|apply Goes.seq|apply Goes.block|((first|apply Goes.Zo|apply Goes.ops2 fits Hh Zb); · simp (decide:=true) only [go_sem,Zr,H.get_put,H.Zf,Za,Zz,reduceIte,Nat.reduceAdd,Nat.reduceMul,Zx,Z0,asC,Ze,Ya,Z7,k1,k4,k5,k6,k8,k9,hp2,hA2,hD2,hO2,b1,wr1,lp,w1,z0,z1,z2,wr2,ls,rg,hn1,hn2',Yx,Ja,Jb,Jt,Ut,J3,Uu,J2,Uv,Oi,Y9,U0,Uy,Uh,G8,Gz,cW,gW,Nat.zero_add,Nat.add_zero,Nat.beq_refl]<;>rfl))
   (apply Goes.ops2 fits Hh (Zt Zb dD); · simp (decide:=true) only [go_sem,Zr,H.get_put,H.Zf,Za,Zz,reduceIte,Nat.reduceAdd,Nat.reduceMul,Zw,k1,k4,k5,k6,k8,k9,hp2,hA2,hD2,hO2,b1,wr1,lp,w1,z0,z1,z2,wr2,ls,rg,hn1,hn2',Yx,Ja,Jb,Jt,Ut,J3,Uu,J2,Uv,Oi,Y9,U0,Uy,Uh,G8,Gz,cW,gW,Nat.zero_add,Nat.add_zero,Nat.beq_refl]<;>rfl)
   (apply Goes.ops2 fits Hh Zb; · simp (decide:=true) only [go_sem,Zr,H.get_put,H.Zf,Za,Zz,reduceIte,Nat.reduceAdd,Nat.reduceMul,k1,k4,k5,k6,k8,k9,hp2,hA2,hD2,hO2,b1,wr1,lp,w1,z0,z1,z2,wr2,ls,rg,hn1,hn2',Yx,Ja,Jb,Jt,Ut,J3,Uu,J2,Uv,Oi,Y9,U0,Uy,Uh,G8,Gz,cW,gW,Nat.zero_add,Nat.add_zero,Nat.beq_refl]<;>rfl)
   show Goes K Tryz.prog 159 none (.loop (q14 [1,1,1,1,1,1,1,1,0,1,2,2])) _ _ _ _
   rw[←Ga]
   refine (ih (b+1) _ _ (by omega) ?_ ?_ ?_ ?_ ?_ ?_ ?_ ?_ ?_ ?_).mono ?_
   ·rw[H.get_put,if_neg (by omega),H.get_put,if_neg (by omega),hk2 _ (by omega),H.Zf,if_neg (by omega)]; exact hp
   ·rw[H.get_put,if_neg (by omega),H.get_put,if_neg (by omega),hk2 _ (by omega),H.Zf,if_neg (by omega)]; exact hA
   ·rw[H.get_put,if_neg (by omega),H.get_put,if_neg (by omega),hk2 _ (by omega),H.Zf,if_neg (by omega)]; exact hD
   ·rw[H.get_put,if_pos rfl,List.set_set,setb]
   ·simp (decide:=true) only [Ze,reduceIte,k1]
   ·simp (decide:=true) only [Ze,reduceIte,k4]
   ·simp (decide:=true) only [Ze,reduceIte,k5]
   ·simp (decide:=true) only [Ze,reduceIte,k6]
   ·simp (decide:=true) only [Ze,reduceIte]
   ·simp only[H.Zh]; omega
   ·rintro x ds' ts' h' ⟨e1,e2,e3,e4,e5,e6⟩
    simp only[H.Zh] at e3 e5
    refine⟨e1,e2,by omega,e4,fun m hm hlt=>?_,?_⟩
    ·rw[e5 m hm (by omega)]
     rw[H.get_put,if_neg (by omega),H.get_put,if_neg (by omega),hk2 _ (by omega),H.Zf,if_neg (by omega)]
    ·exact e6
  have z0:((b:Int) == 0)=false:=by simpa using b0
  have z1:((b:Int) == 1)=false:=by
   have:¬ (b:Int)=1:=by omega
   simpa using this
  by_cases b2:b=2
  ·have z2:((b:Int) == 2)=true:=by rw[b2]; rfl
   have setb:=Tp S D Hd I sz ino L b _ Hd hx' (by rw[b2]; rfl)
   have wr2:Z4 256 ((O8 S D Hd I sz ino L b).set b (pack (Uc sz ino kd a))) (b * 256) Hd=some (((O8 S D Hd I sz ino L b).set b (pack (Uc sz ino kd a))).set b Hd):=Ez Sp.lh (by omega) hE lp
   have ls:=Sp.lh
   apply Goes.seq
   (apply Goes.ops2 fits Hh (Zt Zb (Zai Hh (Uc sz ino kd a) h.next false h2 hb2)); · simp (decide:=true) only [go_sem,Zr,H.get_put,H.Zf,Za,Zz,reduceIte,Nat.reduceAdd,Nat.reduceMul,Zw,k1,k4,k5,k6,k8,k9,hp2,hA2,hD2,hO2,b1,wr1,lp,w1,z0,z1,z2,wr2,ls,hn1,hn2',Yx,Ja,Jb,Jt,Ut,J3,Uu,J2,Uv,Oi,Y9,U0,Uy,Uh,G8,Gz,cW,gW,Nat.zero_add,Nat.add_zero,Nat.beq_refl,Zc1]<;>rfl)
   iterate 10 (first|apply Goes.seq|apply Goes.block|((first|apply Goes.Zo|apply Goes.ops2 fits Hh Zb); · simp (decide:=true) only [go_sem,Zr,H.get_put,H.Zf,Za,Zz,reduceIte,Nat.reduceAdd,Nat.reduceMul,Zx,Z0,asC,Ze,Ya,Z7,k1,k4,k5,k6,k8,k9,hp2,hA2,hD2,hO2,b1,wr1,lp,w1,z0,z1,z2,wr2,ls,hn1,hn2',Yx,Ja,Jb,Jt,Ut,J3,Uu,J2,Uv,Oi,Y9,U0,Uy,Uh,G8,Gz,cW,gW,Nat.zero_add,Nat.add_zero,Nat.beq_refl,Zc1]<;>rfl))
   (apply Goes.ops2 fits Hh (Zt Zb (Sp.hd (h2.put nO (.row 256 ((O8 S D Hd I sz ino L b).set b (pack (Uc sz ino kd a))) false)))); · simp (decide:=true) only [go_sem,Zr,H.get_put,H.Zf,Za,Zz,reduceIte,Nat.reduceAdd,Nat.reduceMul,Zw,k1,k4,k5,k6,k8,k9,hp2,hA2,hD2,hO2,b1,wr1,lp,w1,z0,z1,z2,wr2,ls,hn1,hn2',Yx,Ja,Jb,Jt,Ut,J3,Uu,J2,Uv,Oi,Y9,U0,Uy,Uh,G8,Gz,cW,gW,Nat.zero_add,Nat.add_zero,Nat.beq_refl,Zc1]<;>rfl)
   (apply Goes.ops2 fits Hh Zb; · simp (decide:=true) only [go_sem,Zr,H.get_put,H.Zf,Za,Zz,reduceIte,Nat.reduceAdd,Nat.reduceMul,k1,k4,k5,k6,k8,k9,hp2,hA2,hD2,hO2,b1,wr1,lp,w1,z0,z1,z2,wr2,ls,hn1,hn2',Yx,Ja,Jb,Jt,Ut,J3,Uu,J2,Uv,Oi,Y9,U0,Uy,Uh,G8,Gz,cW,gW,Nat.zero_add,Nat.add_zero,Nat.beq_refl,Zc1]<;>rfl)
   show Goes K Tryz.prog 159 none (.loop (q14 [1,1,1,1,1,1,1,1,0,1,2,2])) _ _ _ _
   rw[←Ga]
   refine (ih (b+1) _ _ (by omega) ?_ ?_ ?_ ?_ ?_ ?_ ?_ ?_ ?_ ?_).mono ?_
   ·rw[H.get_put,if_neg (by omega),H.get_put,if_neg (by omega),hk2 _ (by omega),H.Zf,if_neg (by omega)]; exact hp
   ·rw[H.get_put,if_neg (by omega),H.get_put,if_neg (by omega),hk2 _ (by omega),H.Zf,if_neg (by omega)]; exact hA
   ·rw[H.get_put,if_neg (by omega),H.get_put,if_neg (by omega),hk2 _ (by omega),H.Zf,if_neg (by omega)]; exact hD
   ·rw[H.get_put,if_pos rfl,List.set_set,setb]
   ·simp (decide:=true) only [Ze,reduceIte,k1]
   ·simp (decide:=true) only [Ze,reduceIte,k4]
   ·simp (decide:=true) only [Ze,reduceIte,k5]
   ·simp (decide:=true) only [Ze,reduceIte,k6]
   ·simp (decide:=true) only [Ze,reduceIte]
   ·simp only[H.Zh]; omega
   ·rintro x ds' ts' h' ⟨e1,e2,e3,e4,e5,e6⟩
    simp only[H.Zh] at e3 e5
    refine⟨e1,e2,by omega,e4,fun m hm hlt=>?_,?_⟩
    ·rw[e5 m hm (by omega)]
     rw[H.get_put,if_neg (by omega),H.get_put,if_neg (by omega),hk2 _ (by omega),H.Zf,if_neg (by omega)]
    ·exact e6
  have z2:((b:Int) == 2)=false:=by
   have:¬ (b:Int)=2:=by omega
   simpa using this
  have r3:read1 4 L (b * 4+3)=some (.int .i64 d):=Dn (sz:=4) (j:=3) (by omega) hx'
  by_cases d1:d=1
  ·have e1:(d == 1)=true:=by rw[d1]; rfl
   have setb:=Tp S D Hd I sz ino L b _ I hx' (by simp only[thing,Zk3]; rw[if_neg b0,if_neg b1',if_neg b2,if_pos d1])
   have wr2:Z4 256 ((O8 S D Hd I sz ino L b).set b (pack (Uc sz ino kd a))) (b * 256) I=some (((O8 S D Hd I sz ino L b).set b (pack (Uc sz ino kd a))).set b I):=Ez Sp.li (by omega) hE lp
   have ls:=Sp.li
   have rb:Zd 256 ((O8 S D Hd I sz ino L b).set b (pack (Uc sz ino kd a))) (b * 256) 256=some (pack (Uc sz ino kd a)):=Ze9 (by omega) hE lp
   apply Goes.seq
   (apply Goes.ops2 fits Hh (Zt Zb (Zai Hh (Uc sz ino kd a) h.next false h2 hb2)); · simp (decide:=true) only [go_sem,Zr,H.get_put,H.Zf,Za,Zz,reduceIte,Nat.reduceAdd,Nat.reduceMul,Zw,k1,k4,k5,k6,k8,k9,hp2,hA2,hD2,hO2,b1,wr1,lp,w1,z0,z1,z2,wr2,ls,r3,e1,rb,hn1,hn2',Yx,Ja,Jb,Jt,Ut,J3,Uu,J2,Uv,Oi,Y9,U0,Uy,Uh,G8,Gz,cW,gW,Nat.zero_add,Nat.add_zero,Nat.beq_refl,Zhx]<;>rfl)
   iterate 13 (first|apply Goes.seq|apply Goes.block|((first|apply Goes.Zo|apply Goes.ops2 fits Hh Zb); · simp (decide:=true) only [go_sem,Zr,H.get_put,H.Zf,Za,Zz,reduceIte,Nat.reduceAdd,Nat.reduceMul,Zx,Z0,asC,Ze,Ya,Z7,k1,k4,k5,k6,k8,k9,hp2,hA2,hD2,hO2,b1,wr1,lp,w1,z0,z1,z2,wr2,ls,r3,e1,rb,hn1,hn2',Yx,Ja,Jb,Jt,Ut,J3,Uu,J2,Uv,Oi,Y9,U0,Uy,Uh,G8,Gz,cW,gW,Nat.zero_add,Nat.add_zero,Nat.beq_refl,Zhx]<;>rfl))
   (apply Goes.ops2 fits Hh (Zt Zb (Sp.i (h2.put nO (.row 256 ((O8 S D Hd I sz ino L b).set b (pack (Uc sz ino kd a))) false)) b kd a c (d1 ▸ hx'))); · simp (decide:=true) only [go_sem,Zr,H.get_put,H.Zf,Za,Zz,reduceIte,Nat.reduceAdd,Nat.reduceMul,Zw,k1,k4,k5,k6,k8,k9,hp2,hA2,hD2,hO2,b1,wr1,lp,w1,z0,z1,z2,wr2,ls,r3,e1,rb,hn1,hn2',Yx,Ja,Jb,Jt,Ut,J3,Uu,J2,Uv,Oi,Y9,U0,Uy,Uh,G8,Gz,cW,gW,Nat.zero_add,Nat.add_zero,Nat.beq_refl,Zhx]<;>rfl)
   (apply Goes.ops2 fits Hh Zb; · simp (decide:=true) only [go_sem,Zr,H.get_put,H.Zf,Za,Zz,reduceIte,Nat.reduceAdd,Nat.reduceMul,k1,k4,k5,k6,k8,k9,hp2,hA2,hD2,hO2,b1,wr1,lp,w1,z0,z1,z2,wr2,ls,r3,e1,rb,hn1,hn2',Yx,Ja,Jb,Jt,Ut,J3,Uu,J2,Uv,Oi,Y9,U0,Uy,Uh,G8,Gz,cW,gW,Nat.zero_add,Nat.add_zero,Nat.beq_refl,Zhx]<;>rfl)
   show Goes K Tryz.prog 159 none (.loop (q14 [1,1,1,1,1,1,1,1,0,1,2,2])) _ _ _ _
   rw[←Ga]
   refine (ih (b+1) _ _ (by omega) ?_ ?_ ?_ ?_ ?_ ?_ ?_ ?_ ?_ ?_).mono ?_
   ·rw[H.get_put,if_neg (by omega),H.get_put,if_neg (by omega),hk2 _ (by omega),H.Zf,if_neg (by omega)]; exact hp
   ·rw[H.get_put,if_neg (by omega),H.get_put,if_neg (by omega),hk2 _ (by omega),H.Zf,if_neg (by omega)]; exact hA
   ·rw[H.get_put,if_neg (by omega),H.get_put,if_neg (by omega),hk2 _ (by omega),H.Zf,if_neg (by omega)]; exact hD
   ·rw[H.get_put,if_pos rfl,List.set_set,setb]
   ·simp (decide:=true) only [Ze,reduceIte,k1]
   ·simp (decide:=true) only [Ze,reduceIte,k4]
   ·simp (decide:=true) only [Ze,reduceIte,k5]
   ·simp (decide:=true) only [Ze,reduceIte,k6]
   ·simp (decide:=true) only [Ze,reduceIte]
   ·simp only[H.Zh]; omega
   ·rintro x ds' ts' h' ⟨e1,e2,e3,e4,e5,e6⟩
    simp only[H.Zh] at e3 e5
    refine⟨e1,e2,by omega,e4,fun m hm hlt=>?_,?_⟩
    ·rw[e5 m hm (by omega)]
     rw[H.get_put,if_neg (by omega),H.get_put,if_neg (by omega),hk2 _ (by omega),H.Zf,if_neg (by omega)]
    ·exact e6
  ·have e1:(d == 1)=false:=by simpa using d1
   have setb:=Tp S D Hd I sz ino L b _ (pack (Uc sz ino kd a)) hx' (by simp only[thing,Zk3]; rw[if_neg b0,if_neg b1',if_neg b2,if_neg d1])
   apply Goes.seq
   (apply Goes.ops2 fits Hh (Zt Zb (Zai Hh (Uc sz ino kd a) h.next false h2 hb2)); · simp (decide:=true) only [go_sem,Zr,H.get_put,H.Zf,Za,Zz,reduceIte,Nat.reduceAdd,Nat.reduceMul,Zw,k1,k4,k5,k6,k8,k9,hp2,hA2,hD2,hO2,b1,wr1,lp,w1,z0,z1,z2,r3,e1,hn1,hn2',Yx,Ja,Jb,Jt,Ut,J3,Uu,J2,Uv,Oi,Y9,U0,Uy,Uh,G8,Gz,cW,gW,Nat.zero_add,Nat.add_zero,Nat.beq_refl]<;>rfl)
   iterate 15 (first|apply Goes.seq|apply Goes.skip|apply Goes.block|((first|apply Goes.Zo|apply Goes.ops2 fits Hh Zb); · simp (decide:=true) only [go_sem,Zr,H.get_put,H.Zf,Za,Zz,reduceIte,Nat.reduceAdd,Nat.reduceMul,Zx,Z0,asC,Ze,Ya,Z7,k1,k4,k5,k6,k8,k9,hp2,hA2,hD2,hO2,b1,wr1,lp,w1,z0,z1,z2,r3,e1,hn1,hn2',Yx,Ja,Jb,Jt,Ut,J3,Uu,J2,Uv,Oi,Y9,U0,Uy,Uh,G8,Gz,cW,gW,Nat.zero_add,Nat.add_zero,Nat.beq_refl]<;>rfl))
   show Goes K Tryz.prog 159 none (.loop (q14 [1,1,1,1,1,1,1,1,0,1,2,2])) _ _ _ _
   rw[←Ga]
   refine (ih (b+1) _ _ (by omega) ?_ ?_ ?_ ?_ ?_ ?_ ?_ ?_ ?_ ?_).mono ?_
   ·rw[H.get_put,if_neg (by omega),hk2 _ (by omega),H.Zf,if_neg (by omega)]; exact hp
   ·rw[H.get_put,if_neg (by omega),hk2 _ (by omega),H.Zf,if_neg (by omega)]; exact hA
   ·rw[H.get_put,if_neg (by omega),hk2 _ (by omega),H.Zf,if_neg (by omega)]; exact hD
   ·rw[H.get_put,if_pos rfl,setb]
   ·simp (decide:=true) only [Ze,reduceIte,k1]
   ·simp (decide:=true) only [Ze,reduceIte,k4]
   ·simp (decide:=true) only [Ze,reduceIte,k5]
   ·simp (decide:=true) only [Ze,reduceIte,k6]
   ·simp (decide:=true) only [Ze,reduceIte]
   ·simp only[H.Zh]; omega
   ·rintro x ds' ts' h' ⟨e1,e2,e3,e4,e5,e6⟩
    simp only[H.Zh] at e3 e5
    refine⟨e1,e2,by omega,e4,fun m hm hlt=>?_,?_⟩
    ·rw[e5 m hm (by omega)]
     rw[H.get_put,if_neg (by omega),hk2 _ (by omega),H.Zf,if_neg (by omega)]
    ·exact e6
end
end Go.Proofs.YtdkcjalmhdofcaaGreatDoor
set_option maxRecDepth 100000
namespace Go.Proofs.YtdkcjalmhdofcaaGreatDoor
open Go.Ev
theorem Xh:Yz K 88=some ti100:=by kernel_rfl
theorem Zps:K.types.get 88=some ti88:=by kernel_rfl
theorem Z1w:ti88.desc=.slice 100:=rfl
theorem Z1i:K.types.get 100=some ti100:=by kernel_rfl
theorem Zws:ti100.size=3:=rfl
theorem Zz7:ti100.bytes=24:=rfl
theorem Z0o:Zp K 100 1=some (1,ti3):=by kernel_rfl
theorem Z2b:Zp K 100 2=some (2,ti3):=by kernel_rfl
theorem V9 (n off len sz:Nat):Y2 K 88 (.slice n off len sz)=true:=by unfold Y2; rw[Zps]; rfl
theorem V8 (a b:Int):Z9 K 100 (some [(0,.c (.int .i64 a)),(1,.c (.int .i64 b))])=some (.g [.int .i64 a,.int .i64 b,.int .i64 0]):=by kernel_rfl
theorem Za7 (h:Go.Ev.H) (a b c:C):Yy h 1 (some ti100) (some [(0,.g [a,b,c])])=some (.w (.c (.slice h.next 0 1 3)),h.new (.row 3 [[a,b,c]] false)):=rfl
def X8 (dn ino:Nat):List C:=[.int .i64 dn,.int .i64 ino,.int .i64 0]
theorem Z2o {h:Go.Ev.H} {n:Nat} {L:List (List C)} (x:List C) (ho:h.get n=some (.row 3 L false)) (hn:n<h.next) (hl:L.length≤4000) :
  Jj (h.new (.row 3 [x] false)) (some ti100) (.slice n 0 L.length 3) (.slice h.next 0 1 3)=some (.w (.c (.slice (h.next+1) 0 (L.length+1) 3)),((h.new (.row 3 [x] false)).del n).new (.row 3 (L++[x]) false)) :=
 Ny (M:=[x]) Zws (by rw[H.Zf,if_neg (by omega)]; exact ho) (by rw[H.Zf,if_pos rfl]) (by simp) (by rw[Zz7]; show (L.length+1) * 24≤_; omega) (by show L.length+1≤_; omega)
theorem Z03 {h:Go.Ev.H} (x:List C) :
  Jj (h.new (.row 3 [x] false)) (some ti100) .snil (.slice h.next 0 1 3)=some (.w (.c (.slice (h.next+1) 0 1 3)),(h.new (.row 3 [x] false)).new (.row 3 [x] false)) :=
 append_nil (M:=[x]) Zws (by rw[H.Zf,if_pos rfl]) (by simp) (by rw[Zz7]; show 1 * 24≤_; omega) (by show 1≤_; omega)
section
variable (Hh:Hearts K Tryz.prog)
include Hh
theorem mk0 {gr sz ino jr:Nat} (F:Fine gr sz ino jr) (p base:Nat) (hpb:p<base):∀ (k i:Nat) (ts:Zy) (h:Go.Ev.H),i+k=gr→base≤h.next→h.get p=some (.row 4 [Yo gr sz ino jr] false)→Zm ts 1=.w (.c (.ptr p 0))→Zm ts 7=.w (.c (.int .i64 i))→(i=0∧Zm ts 6=.w (.c .snil)∨∃ n,base≤n∧n<h.next∧Zm ts 6=.w (.c (.slice n 0 i 3))∧h.get n=some (.row 3 (List.replicate i (X8 (Od (Uw gr sz ino jr)) ino)) false)) →
  Goes K Tryz.prog 159 none (q14 [1,1,1,1,1,0,1,2]) [] ts h fun x ds' ts' h'=>x=.exit 0∧ds'=[]∧h.next≤h'.next∧(∀ m,m<base→h'.get m=h.get m)∧Zm ts' 1=Zm ts 1∧Zm ts' 4=Zm ts 4∧Zm ts' 5=Zm ts 5∧∃ n,base≤n∧n<h'.next∧Zm ts' 6=.w (.c (.slice n 0 gr 3))∧h'.get n=some (.row 3 (List.replicate gr (X8 (Od (Uw gr sz ino jr)) ino)) false):=by
 have F':=F
 obtain⟨g1,g2,g3,g4,g5,g6,g7,g8,g9,g10,g11⟩:=F
 intro k
 induction k with
 | zero =>
  intro i ts h hi hb hp h1 h7 st
  have ei:i=gr:=by omega
  subst ei
  have hp':h.get p=some (.row 4 [[.int .i64 i,.int .i64 sz,.int .i64 ino,.int .i64 jr]] false):=hp
  have c1:decide ((i:Int)<(i:Int))=false:=decide_eq_false (by omega)
  iterate 6 (first|apply Goes.seq|apply Goes.exit|apply Goes.loop|((first|apply Goes.Zo|apply Goes.ops2 fits Hh Zb); · simp (decide:=true) only [go_sem,Zr,H.get_put,H.Zf,Za,Zz,reduceIte,Nat.reduceAdd,Nat.reduceMul,Zx,Z0,asC,Ze,Ya,Z7,h1,h7,hp',c1,X3,geo0,Y9,U0,Uy,cW,Nat.zero_add]<;>rfl))
  rcases st with ⟨e,_⟩|⟨n,n1,n2,n3,n4⟩
  ·omega
  refine⟨rfl,rfl,Nat.le_refl _,fun _ _=>rfl,?_,?_,?_,n,n1,n2,?_,n4⟩
  ·simp (decide:=true) only [Ze,reduceIte]
  ·simp (decide:=true) only [Ze,reduceIte]
  ·simp (decide:=true) only [Ze,reduceIte]
  ·simp (decide:=true) only [Ze,reduceIte,n3]
 | succ k ih =>
  intro i ts h hi hb hp h1 h7 st
  have hp':h.get p=some (.row 4 [[.int .i64 gr,.int .i64 sz,.int .i64 ino,.int .i64 jr]] false):=hp
  have c1:decide ((i:Int)<(gr:Int))=true:=decide_eq_true (by omega)
  have w1:Yn .i64 ((i:Int)+1)=.int .i64 ((i+1:Nat):Int):=by rw[wrap64 (by omega) (by omega)]; congr 1
  have rg:Zd 4 [[C.int .i64 gr,.int .i64 sz,.int .i64 ino,.int .i64 jr]] 0 4=some [.int .i64 gr,.int .i64 sz,.int .i64 ino,.int .i64 jr]:=rfl
  have dk:Zg K Tryz.prog 51 [.g [.int .i64 gr,.int .i64 sz,.int .i64 ino,.int .i64 jr]] h (.w (.c (.int .i64 (Od (Uw gr sz ino jr):Nat)))) h:=Zt2 Hh F' h
  rcases st with ⟨e,h6⟩|⟨n,n1,n2,n3,n4⟩
  ·subst e
   have ap:=Z03 (h:=h) (X8 (Od (Uw gr sz ino jr)) ino)
   simp only[X8] at ap
   have q1:p≠h.next:=by omega
   have q2:p≠h.next+1:=by omega
   iterate 8 (first|apply Goes.seq|apply Goes.skip|apply Goes.block|apply Goes.loop|((first|apply Goes.Zo|apply Goes.ops2 fits Hh Zb); · simp (decide:=true) only [go_sem,Zr,H.get_put,H.Zf,Za,Zz,reduceIte,Nat.reduceAdd,Nat.reduceMul,Zx,Z0,asC,Ze,Ya,Z7,h1,h6,h7,hp',c1,w1,rg,ap,q1,q2,X3,geo0,Ep,geo2,Y9,U0,Uy,Uh,Gz,G8,cW,gW,Nat.zero_add,Xh,V9,V8,Za7,Zn]<;>rfl))
   (apply Goes.drawn2 fits Hh (Zt Zb dk) (by kernel_rfl); · simp (decide:=true) only [go_sem,H.get_put,H.Zf,Za,Zz,reduceIte,Nat.reduceAdd,Nat.reduceMul,drG,Zw,h1,h6,h7,hp',c1,w1,rg,ap,q1,q2,X3,geo0,Ep,geo2,Y9,U0,Uy,Uh,Gz,G8,cW,gW,Nat.zero_add,Xh,V9,V8,Za7,Zn]<;>rfl)
   (apply Goes.ops2 fits Hh Zb; · simp (decide:=true) only [go_sem,Zr,H.get_put,H.Zf,Za,Zz,reduceIte,Nat.reduceAdd,Nat.reduceMul,h1,h6,h7,hp',c1,w1,rg,ap,q1,q2,X3,geo0,Ep,geo2,Y9,U0,Uy,Uh,Gz,G8,cW,gW,Nat.zero_add,Xh,V9,V8,Za7,Zn]<;>rfl)
   show Goes K Tryz.prog 159 none (.loop (q14 [1,1,1,1,1,0,1,2,2])) _ _ _ _
   rw[←Zae]
   refine (ih 1 _ _ (by omega) ?_ ?_ ?_ ?_ (.inr ⟨h.next+1,by omega,?_,?_,?_⟩)).mono ?_
   ·simp only[H.Zc,H.Zi]; omega
   ·rw[H.Zf,H.Zc,if_neg (by omega),H.Zf,if_neg (by omega)]; exact hp
   ·simp (decide:=true) only [Ze,reduceIte,h1]
   ·simp (decide:=true) only [Ze,reduceIte]<;>rfl
   ·simp only[H.Zc,H.Zi]; omega
   ·simp (decide:=true) only [Ze,reduceIte]<;>rfl
   ·rw[H.Zf,H.Zc,if_pos rfl]; rfl
   ·rintro x ds' ts' h' ⟨e1,e2,e3,e4,e5,e6,e7,e8⟩
    simp only[H.Zc,H.Zi] at e3
    refine⟨e1,e2,by omega,fun m hm=>?_,?_,?_,?_,e8⟩
    ·rw[e4 m hm]
     rw[H.Zf,H.Zc,if_neg (by omega),H.Zf,if_neg (by omega)]
    ·rw[e5]; simp (decide:=true) only [Ze,reduceIte]
    ·rw[e6]; simp (decide:=true) only [Ze,reduceIte]
    ·rw[e7]; simp (decide:=true) only [Ze,reduceIte]
  ·have ap:=Z2o (X8 (Od (Uw gr sz ino jr)) ino) n4 n2 (by rw[List.length_replicate]; omega)
   simp only[X8,List.length_replicate] at ap
   have q1:p≠h.next:=by omega
   have q2:p≠h.next+1:=by omega
   have q3:p≠n:=by omega
   iterate 8 (first|apply Goes.seq|apply Goes.skip|apply Goes.block|apply Goes.loop|((first|apply Goes.Zo|apply Goes.ops2 fits Hh Zb); · simp (decide:=true) only [go_sem,Zr,H.get_put,H.Zf,Za,Zz,reduceIte,Nat.reduceAdd,Nat.reduceMul,Zx,Z0,asC,Ze,Ya,Z7,h1,n3,h7,hp',c1,w1,rg,ap,q1,q2,q3,X3,geo0,Ep,geo2,Y9,U0,Uy,Uh,Gz,G8,cW,gW,Nat.zero_add,Xh,V9,V8,Za7,Zn,H.Zk,H.Zi]<;>rfl))
   (apply Goes.drawn2 fits Hh (Zt Zb dk) (by kernel_rfl); · simp (decide:=true) only [go_sem,H.get_put,H.Zf,Za,Zz,reduceIte,Nat.reduceAdd,Nat.reduceMul,drG,Zw,h1,n3,h7,hp',c1,w1,rg,ap,q1,q2,q3,X3,geo0,Ep,geo2,Y9,U0,Uy,Uh,Gz,G8,cW,gW,Nat.zero_add,Xh,V9,V8,Za7,Zn,H.Zk,H.Zi]<;>rfl)
   (apply Goes.ops2 fits Hh Zb; · simp (decide:=true) only [go_sem,Zr,H.get_put,H.Zf,Za,Zz,reduceIte,Nat.reduceAdd,Nat.reduceMul,h1,n3,h7,hp',c1,w1,rg,ap,q1,q2,q3,X3,geo0,Ep,geo2,Y9,U0,Uy,Uh,Gz,G8,cW,gW,Nat.zero_add,Xh,V9,V8,Za7,Zn,H.Zk,H.Zi]<;>rfl)
   show Goes K Tryz.prog 159 none (.loop (q14 [1,1,1,1,1,0,1,2,2])) _ _ _ _
   rw[←Zae]
   refine (ih (i+1) _ _ (by omega) ?_ ?_ ?_ ?_ (.inr ⟨h.next+1,by omega,?_,?_,?_⟩)).mono ?_
   ·simp only[H.Zc,H.Zi]; omega
   ·rw[H.Zf,H.Zi,H.Zc,if_neg (by omega),H.Zk,if_neg (by omega),H.Zf,if_neg (by omega)]; exact hp
   ·simp (decide:=true) only [Ze,reduceIte,h1]
   ·simp (decide:=true) only [Ze,reduceIte]<;>rfl
   ·simp only[H.Zc,H.Zi]; omega
   ·simp (decide:=true) only [Ze,reduceIte]<;>rfl
   ·rw[H.Zf,H.Zi,H.Zc,if_pos rfl,List.replicate_succ']; rfl
   ·rintro x ds' ts' h' ⟨e1,e2,e3,e4,e5,e6,e7,e8⟩
    simp only[H.Zc,H.Zi] at e3
    refine⟨e1,e2,by omega,fun m hm=>?_,?_,?_,?_,e8⟩
    ·rw[e4 m hm]
     rw[H.Zf,H.Zi,H.Zc,if_neg (by omega),H.Zk,if_neg (by omega),H.Zf,if_neg (by omega)]
    ·rw[e5]; simp (decide:=true) only [Ze,reduceIte]
    ·rw[e6]; simp (decide:=true) only [Ze,reduceIte]
    ·rw[e7]; simp (decide:=true) only [Ze,reduceIte]
omit Hh in
theorem Vn:Yz K 54=some ti60:=by kernel_rfl
omit Hh in
theorem Z1q:ti60.bytes=256:=rfl
omit Hh in
theorem Z0t:ti60.zero.cells=Ng:=rfl
omit Hh in
theorem Zwp (h:Go.Ev.H) (S D Hd I:List C) (sz ino:Nat) (L:List (List C)) (hL:L.length≤4000):Jw h (some ti60) (some L.length) (some L.length)=some (.w (.c (.slice h.next 0 L.length 256)),h.new (.row 256 (O8 S D Hd I sz ino L 0) false)):=by
 have e:List.replicate L.length Ng=O8 S D Hd I sz ino L 0:=by
  refine List.ext_getElem (by simp [O8]) fun t h1 h2=>?_
  simp [O8]
 have b1:Nat.ble L.length L.length=true:=Q8 (Nat.le_refl _)
 have b2:Nat.ble (L.length * 256) 1099511627776=true:=Q8 (by omega)
 have b3:Nat.ble L.length 1099511627776=true:=Q8 (by omega)
 simp only[Jw,Z1q,b1,b2,b3,Bool.and_self,cond_true,Jp,Z0t,Uv,e]
def Zem (dn ino gr:Nat):List (List C):=[.int .i64 dn,.int .i64 ((ino - 1:Nat):Int),.int .i64 1] :: List.replicate (gr - 1) (X8 dn ino)
theorem Z01 {gr sz ino jr:Nat} (F:Fine gr sz ino jr) (S D Hd I:List C) (Sp:Special Tryz.prog gr sz ino jr (Uw gr sz ino jr) (Zem (Od (Uw gr sz ino jr)) ino gr) S D Hd I) (hfl:(O8 S D Hd I sz ino (Uw gr sz ino jr) (Uw gr sz ino jr).length).all (fun l=>l.all C.flat)=true) (h:Go.Ev.H) :
  Zg K Tryz.prog 14 [.g (Yo gr sz ino jr)] h (.tup [.c (.slice h.next 0 (Uw gr sz ino jr).length 256),.c (.int .i64 0)]) (h.new (.row 256 (O8 S D Hd I sz ino (Uw gr sz ino jr) (Uw gr sz ino jr).length) false)):=by
 refine Zg.tidy ⟨_,Tryz.func14,by kernel_rfl,of_decide_eq_true (by kernel_rfl)⟩ fun tidy=>?_
 suffices hs:Goes K Tryz.prog 159 none (q14 []) [] (Jm 0 [.g (Yo gr sz ino jr)] .nil) h fun x ds ts h1=>∃ n,h.next≤n∧n<h1.next∧h1.get n=some (.row 256 (O8 S D Hd I sz ino (Uw gr sz ino jr) (Uw gr sz ino jr).length) false)∧(∀ n,n<h.next→h1.get n=h.get n)∧leave K Tryz.f14 (some (.at x ds ts h1))=some (.val (.tup [.c (.slice n 0 (Uw gr sz ino jr).length 256),.c (.int .i64 0)]) h1) by
  obtain⟨x,ds,ts,h1,g,n,e1,e2,e3,e4,e5⟩:=hs
  exact (Zg.body fits Hh (by kernel_rfl) (by kernel_rfl) (by kernel_rfl) (by kernel_rfl) rfl g e5).row e1 e3 rfl hfl e2 e4
 have hlen:(Uw gr sz ino jr).length≤4000:=by
  rw[Uw,List.length_append,Zc8,Tm F.fit]
  have:=F.all
  omega
 obtain⟨L,hL⟩:∃ L,Uw gr sz ino jr=L:=⟨_,rfl⟩
 have hT:Zjo L:=hL ▸ Ta gr sz ino jr
 have e0:Zm (Jm 0 [.g (Yo gr sz ino jr)] .nil) 0=.w (.g (Yo gr sz ino jr)):=by rw[Y8]; rfl
 have lg:(Yo gr sz ino jr).length=4:=rfl
 have rg:Zd 4 [Yo gr sz ino jr] 0 4=some (Yo gr sz ino jr):=rfl
 have nslice:Q9 (.slice none 0 0)=some (.w (.c .snil)):=rfl
 have e1:Tryz.f14.results.toList=[.tmp 2,.tmp 3]:=rfl
 have mk:=Zz4 Hh F (h.new (.row 4 [Yo gr sz ino jr] false))
 have ak:=Zzz Hh F (h.new (.row 4 [Yo gr sz ino jr] false))
 rw[hL] at ak Sp hlen ⊢
 have ms:=Zwp ((h.new (.row 4 [Yo gr sz ino jr] false)).new (.row 4 L false)) S D Hd I sz ino L hlen
 iterate 4 (first|apply Goes.seq|(apply Goes.ops2 fits Hh Zb; · simp (decide:=true) only [go_sem,Zr,H.get_put,H.Zf,Za,Zz,reduceIte,Nat.reduceAdd,Nat.reduceMul,e0,lg,rg,nslice,ms,Z6,Uh,G8,Gz,gW,Zn,Yg,Ba,Vn]<;>rfl))
 (apply Goes.ops2 fits Hh (Zt Zb mk); · simp (decide:=true) only [go_sem,Zr,H.get_put,H.Zf,Za,Zz,reduceIte,Nat.reduceAdd,Nat.reduceMul,Zw,e0,lg,rg,nslice,ms,Z6,Uh,G8,Gz,gW,Zn,Yg,Ba,Vn]<;>rfl)
 iterate 3 (first|apply Goes.seq|apply Goes.skip|(apply Goes.Zo; · simp (decide:=true) only [go_sem,Zr,H.get_put,H.Zf,Za,Zz,reduceIte,Nat.reduceAdd,Nat.reduceMul,Zx,Z0,asC,Ze,Ya,Z7,e0,lg,rg,nslice,ms,Z6,Uh,G8,Gz,gW,Zn,Yg,Ba,Vn]<;>rfl))
 (apply Goes.ops2 fits Hh (Zt Zb ak); · simp (decide:=true) only [go_sem,Zr,H.get_put,H.Zf,Za,Zz,reduceIte,Nat.reduceAdd,Nat.reduceMul,Zw,e0,lg,rg,nslice,ms,Z6,Uh,G8,Gz,gW,Zn,Yg,Ba,Vn]<;>rfl)
 iterate 8 (first|apply Goes.seq|apply Goes.block|(apply Goes.ops2 fits Hh Zb; · simp (decide:=true) only [go_sem,Zr,H.get_put,H.Zf,Za,Zz,reduceIte,Nat.reduceAdd,Nat.reduceMul,e0,lg,rg,nslice,ms,Z6,Uh,G8,Gz,gW,Zn,Yg,Ba,Vn]<;>rfl))
 show Goes K Tryz.prog 159 none (q14 [1,1,1,1,1,0,1,2]) _ _ _ _
 refine (mk0 Hh F h.next (h.next+3) (by omega) gr 0 _ _ (by omega) ?_ ?_ ?_ ?_ (.inl ⟨rfl,?_⟩)).mono ?_
 ·simp only[H.Zc]; omega
 ·simp only[H.Zf,H.Zc]
  rw[if_neg (by omega),if_neg (by omega),if_pos trivial]
 ·simp (decide:=true) only [Ze,reduceIte]
 ·simp (decide:=true) only [Ze,reduceIte]<;>rfl
 ·simp (decide:=true) only [Ze,reduceIte]
 rintro x ds' ts1 h1 ⟨rfl,rfl,up1,kp1,a1,a4,a5,nD,d1,d2,d3,d4⟩
 simp only[H.Zc] at up1
 have f1:Zm ts1 1=.w (.c (.ptr h.next 0)):=by rw[a1]; simp (decide:=true) only [Ze,reduceIte]
 have f4:Zm ts1 4=.w (.c (.slice (h.next+1) 0 L.length 4)):=by rw[a4]; simp (decide:=true) only [Ze,reduceIte,H.Zc]
 have f5:Zm ts1 5=.w (.c (.slice (h.next+2) 0 L.length 256)):=by rw[a5]; simp (decide:=true) only [Ze,reduceIte,H.Zc]
 have hp1:h1.get h.next=some (.row 4 [[.int .i64 gr,.int .i64 sz,.int .i64 ino,.int .i64 jr]] false):=by
  rw[kp1 _ (by omega)]
  simp only[H.Zf,H.Zc]
  rw[if_neg (by omega),if_neg (by omega),if_pos trivial]
  rfl
 have hA1:h1.get (h.next+1)=some (.row 4 L false):=by
  rw[kp1 _ (by omega)]
  simp only[H.Zf,H.Zc]
  rw[if_neg (by omega),if_pos trivial]
 have hO1:h1.get (h.next+2)=some (.row 256 (O8 S D Hd I sz ino L 0) false):=by
  rw[kp1 _ (by omega)]
  simp only[H.Zf,H.Zc]
  rw[if_pos trivial]
 obtain⟨g1,g2,g3,g4,g5,g6,g7,g8,g9,g10,g11⟩:=id F
 rw[hL] at d4
 obtain⟨gr',hgr⟩:∃ gr',gr=gr'+1:=⟨gr - 1,by omega⟩
 have w1:Yn .i64 ((ino:Int) - 1)=.int .i64 ((ino - 1:Nat):Int):=by rw[wrap64 (by omega) (by omega)]; congr 1; omega
 have n0:Uf (some (.int .i64 0))=some 0:=rfl
 have b0:Nat.blt 0 gr=true:=Un (by omega)
 have wr1:Z4 3 (List.replicate gr (X8 (Od L) ino)) 1 [.int .i64 ((ino - 1:Nat):Int)]=some ([.int .i64 (Od L:Nat),.int .i64 ((ino - 1:Nat):Int),.int .i64 0] :: List.replicate (gr - 1) (X8 (Od L) ino)):=by
  rw[hgr,List.replicate_succ,Nat.add_sub_cancel]
  rfl
 have wr2:Z4 3 ([.int .i64 (Od L:Nat),.int .i64 ((ino - 1:Nat):Int),.int .i64 0] :: List.replicate (gr - 1) (X8 (Od L) ino)) 2 [.int .i64 1]=some (Zem (Od L) ino gr):=rfl
 iterate 8 (first|apply Goes.seq|apply Goes.block|(apply Goes.ops2 fits Hh Zb; · simp (decide:=true) only [go_sem,Zr,H.get_put,H.Zf,Za,Zz,reduceIte,Nat.reduceAdd,Nat.reduceMul,f1,d3,hp1,d4,w1,n0,b0,wr1,wr2,Ep,geo2,Y9,U0,Uy,cW,Zps,Z1w,Z1i,Zws,Z0o,Z2b,Nat.zero_add,Nat.zero_mul,Nat.beq_refl]<;>rfl))
 show Goes K Tryz.prog 159 none (q14 [1,1,1,1,1,1,1,1,0,1,2]) _ _ _ _
 refine (mk2 Hh F h.next (h.next+1) (h.next+2) nD (by omega) (by omega) (by omega) L (Zem (Od L) ino gr) S D Hd I Sp hT hlen L.length 0 _ _ (by omega) ?_ ?_ ?_ ?_ ?_ ?_ ?_ ?_ ?_ ?_).mono ?_
 ·rw[H.get_put,if_neg (by omega),H.get_put,if_neg (by omega)]; exact hp1
 ·rw[H.get_put,if_neg (by omega),H.get_put,if_neg (by omega)]; exact hA1
 ·rw[H.get_put,if_pos rfl]
 ·rw[H.get_put,if_neg (by omega),H.get_put,if_neg (by omega)]; exact hO1
 ·simp (decide:=true) only [Ze,reduceIte,f1]
 ·simp (decide:=true) only [Ze,reduceIte,f4]
 ·simp (decide:=true) only [Ze,reduceIte,f5]
 ·simp (decide:=true) only [Ze,reduceIte,d3]
 ·simp (decide:=true) only [Ze,reduceIte]<;>rfl
 ·simp only[H.Zh]; omega
 rintro x ds' ts2 h2 ⟨rfl,rfl,up2,hO2,kp2,k5⟩
 simp only[H.Zh] at up2 kp2
 iterate 3 (first|apply Goes.seq|apply Goes.ret|(apply Goes.ops2 fits Hh Zb; · simp (decide:=true) only [go_sem,Zr,H.get_put,H.Zf,Za,Zz,reduceIte,Nat.reduceAdd,Nat.reduceMul,k5]<;>rfl))
 refine⟨h.next+2,by omega,by omega,hO2,fun m hm=>?_,?_⟩
 ·rw[kp2 m (by omega) (by omega),H.get_put,if_neg (by omega),H.get_put,if_neg (by omega),kp1 m (by omega)]
  simp only[H.Zf,H.Zc]
  rw[if_neg (by omega),if_neg (by omega),if_neg (by omega)]
 ·simp (decide:=true) only [U1,Y3,finish,e1,Y1,evalW,Z0,asW,Ze,reduceIte,J5]
end
end Go.Proofs.YtdkcjalmhdofcaaGreatDoor
set_option maxRecDepth 100000
namespace Go.Proofs.YtdkcjalmhdofcaaGreatDoor
open Go.Ev
def Rs (v:Nat):Nat:=bif Nat.beq (v % 2) 1 then Nat.xor (v / 2) 3988292384 else v / 2
def shifts:Nat→Nat→Nat
 | 0,v=>v
 | k+1,v=>shifts k (Rs v)
def Zoa:List Nat→Nat→Nat
 | [],v=>v
 | b :: l,v=>Zoa l (shifts 8 (Nat.xor v b))
def Zqy (l:List Nat):Nat:=4294967295 - Zoa l 4294967295
theorem Zg2 {v:Nat} (h:v<4294967296):Rs v<4294967296:=by
 unfold Rs
 cases Nat.beq (v % 2) 1 with
 | true=>exact Nat.xor_lt_two_pow (n:=32) (by omega) (by omega)
 | false=>show v / 2<_; omega
theorem Zhk:∀ (k:Nat) {v:Nat},v<4294967296→shifts k v<4294967296
 | 0,_,h=>h
 | k+1,_,h=>Zhk k (Zg2 h)
noncomputable def q147 (p:List Nat):Code:=piece p (Jz Tryz.f147)
theorem Zn4:q147 [1,1,0,1,2]=.loop (q147 [1,1,0,1,2,2]):=by kernel_rfl
theorem Zbq:q147 [1,1,0,1,2,2,1,0,2,1,1]=.block 2 (q147 [1,1,0,1,2,2,1,0,2,1,1,2]):=by kernel_rfl
theorem Zaq:q147 [1,1,0,1,2,2,1,0,2,1,1,2]=.loop (q147 [1,1,0,1,2,2,1,0,2,1,1,2,2]):=by kernel_rfl
noncomputable def q181 (p:List Nat):Code:=piece p (Jz Tryz.f181)
section
variable (Hh:Hearts K Tryz.prog)
include Hh
theorem Zzf (v:Nat) (hv:v<4294967296) (h:Go.Ev.H):Zg K Tryz.prog 181 [.c (.int .u32 v)] h (.w (.c (.int .u32 (Rs v)))) h:=by
 have e0:Zm (Jm 0 [.c (.int .u32 (v:Int))] .nil) 0=.w (.c (.int .u32 v)):=by rw[Y8]; rfl
 refine Zg.goes fits Hh (by kernel_rfl) (by kernel_rfl) (by kernel_rfl) (show Tryz.f181.body=some (q181 []) by kernel_rfl) rfl ?_
 have r1:F6 .u32 (v:Int) 2=some (.int .u32 ((v % 2:Nat):Int)):=by
  show some (C.int .u32 ((v:Int).tmod 2))=_
  congr 2
 have r2:Fe .u32 (v:Int) 2=some (.int .u32 ((v / 2:Nat):Int)):=by
  show some (Yn .u32 ((v:Int).tdiv 2))=_
  rw[show (v:Int).tdiv 2=((v / 2:Nat):Int) from rfl,Zag (by omega)]
 have e1:Tryz.f181.results.toList=[.tmp 2]:=rfl
 by_cases hc:v % 2=1
 ·have d1:(((v % 2:Nat):Int) == 1)=true:=by rw[hc]; rfl
  have x1:Gb .u32 Nat.xor ((v / 2:Nat):Int) 3988292384=.int .u32 (Nat.xor (v / 2) 3988292384:Nat):=Za8 (b:=3988292384) (by omega) (by omega)
  have e2:Rs v=Nat.xor (v / 2) 3988292384:=by unfold Rs; rw[hc]; rfl
  rw[e2]
  show Goes K Tryz.prog 11 none _ _ _ _ _
  iterate 9 (first|apply Goes.seq|apply Goes.ret|((first|apply Goes.Zo|apply Goes.ops2 fits Hh Zb); · simp (decide:=true) only [go_sem,Zr,H.get_put,H.Zf,Za,Zz,reduceIte,Nat.reduceAdd,Nat.reduceMul,Zx,Z0,asC,Ze,Ya,Z7,e0,r1,r2,d1,x1]<;>rfl))
  simp (decide:=true) only [U1,Y3,finish,e1,Y1,evalW,Z0,asW,Ze,reduceIte,J5]
 ·have d1:(((v % 2:Nat):Int) == 1)=false:=by rw[show v % 2=0 by omega]; rfl
  have e2:Rs v=v / 2:=by unfold Rs; rw[show v % 2=0 by omega]; rfl
  rw[e2]
  show Goes K Tryz.prog 11 none _ _ _ _ _
  iterate 10 (first|apply Goes.seq|apply Goes.skip|apply Goes.ret|((first|apply Goes.Zo|apply Goes.ops2 fits Hh Zb); · simp (decide:=true) only [go_sem,Zr,H.get_put,H.Zf,Za,Zz,reduceIte,Nat.reduceAdd,Nat.reduceMul,Zx,Z0,asC,Ze,Ya,Z7,e0,r1,r2,d1]<;>rfl))
  simp (decide:=true) only [U1,Y3,finish,e1,Y1,evalW,Z0,asW,Ze,reduceIte,J5]
theorem Zu6 (h:Go.Ev.H):∀ (k i v:Nat) (ts:Zy),i+k=8→v<4294967296→Zm ts 3=.w (.c (.int .u32 v))→Zm ts 5=.w (.c (.int .i64 i)) →
  Goes K Tryz.prog 27 none (q147 [1,1,0,1,2,2,1,0,2,1,1,2]) [] ts h fun x ds' ts' h'=>x=.exit 2∧ds'=[]∧h'=h∧Zm ts' 3=.w (.c (.int .u32 (shifts k v)))∧Zm ts' 0=Zm ts 0∧Zm ts' 4=Zm ts 4:=by
 intro k
 induction k with
 | zero =>
  intro i v ts hi hv h3 h5
  have ei:i=8:=by omega
  subst ei
  iterate 6 (first|apply Goes.seq|apply Goes.exit|apply Goes.loop|((first|apply Goes.Zo|apply Goes.ops2 fits Hh Zb); · simp (decide:=true) only [go_sem,Zr,H.get_put,H.Zf,Za,Zz,reduceIte,Nat.reduceAdd,Nat.reduceMul,Zx,Z0,asC,Ze,Ya,Z7,h5]<;>rfl))
  refine⟨rfl,rfl,rfl,?_,?_,?_⟩
  ·simp (decide:=true) only [Ze,reduceIte,h3,shifts]
  ·simp (decide:=true) only [Ze,reduceIte]
  ·simp (decide:=true) only [Ze,reduceIte]
 | succ k ih =>
  intro i v ts hi hv h3 h5
  have d1:decide ((i:Int)<8)=true:=decide_eq_true (by omega)
  have w1:Yn .i64 ((i:Int)+1)=.int .i64 ((i+1:Nat):Int):=by rw[wrap64 (by omega) (by omega)]; congr 1
  iterate 8 (first|apply Goes.seq|apply Goes.skip|apply Goes.block|apply Goes.loop|((first|apply Goes.Zo|apply Goes.ops2 fits Hh Zb); · simp (decide:=true) only [go_sem,Zr,H.get_put,H.Zf,Za,Zz,reduceIte,Nat.reduceAdd,Nat.reduceMul,Zx,Z0,asC,Ze,Ya,Z7,h3,h5,d1,w1]<;>rfl))
  (apply Goes.ops2 fits Hh (Zt Zb (Zzf Hh v hv h)); · simp (decide:=true) only [go_sem,Zr,H.get_put,H.Zf,Za,Zz,reduceIte,Nat.reduceAdd,Nat.reduceMul,Zw,h3,h5,d1,w1]<;>rfl)
  (apply Goes.ops2 fits Hh Zb; · simp (decide:=true) only [go_sem,Zr,H.get_put,H.Zf,Za,Zz,reduceIte,Nat.reduceAdd,Nat.reduceMul,h3,h5,d1,w1]<;>rfl)
  show Goes K Tryz.prog 27 none (.loop (q147 [1,1,0,1,2,2,1,0,2,1,1,2,2])) _ _ _ _
  rw[←Zaq]
  refine (ih (i+1) (Rs v) _ (by omega) (Zg2 hv) ?_ ?_).mono ?_
  ·simp (decide:=true) only [Ze,reduceIte]
  ·simp (decide:=true) only [Ze,reduceIte]
  ·rintro x ds' ts' h' ⟨e1,e2,e3,e4,e5,e6⟩
   refine⟨e1,e2,e3,e4,?_,?_⟩
   ·rw[e5]; simp (decide:=true) only [Ze,reduceIte]
   ·rw[e6]; simp (decide:=true) only [Ze,reduceIte]
theorem Zvv (h:Go.Ev.H) (n off len:Nat) (o:O) (ho:h.get n=some o) (hlen:len<4294967296):∀ (l:List Nat) (i v:Nat) (ts:Zy),i+l.length=len→(∀ j (b:Nat),l[j]? = some b→b<256∧Za ti5 (off+(i+j)) (some o)=some (.c (.int .u8 (b:Int))))→v<4294967296→Zm ts 0=.w (.c (.slice n off len 1))→Zm ts 3=.w (.c (.int .u32 v))→Zm ts 4=.w (.c (.int .i64 i)) →
  Goes K Tryz.prog 27 none (q147 [1,1,0,1,2]) [] ts h fun x ds' ts' h'=>x=.exit 0∧ds'=[]∧h'=h∧Zm ts' 3=.w (.c (.int .u32 (Zoa l v)))∧Zoa l v<4294967296:=by
 intro l
 induction l with
 | nil =>
  intro i v ts hi hl hv h0 h3 h4
  have d1:decide ((i:Int)<(len:Int))=false:=decide_eq_false (by simp at hi; omega)
  have fl:Yr K 192 (.c (.slice n off len 1))=true:=by unfold Yr; rw[Fh]; rfl
  iterate 6 (first|apply Goes.seq|apply Goes.exit|apply Goes.loop|((first|apply Goes.Zo|apply Goes.ops2 fits Hh Zb); · simp (decide:=true) only [go_sem,Zr,H.get_put,H.Zf,Za,Zz,reduceIte,Nat.reduceAdd,Nat.reduceMul,Zx,Z0,asC,Ze,Ya,Z7,h0,h4,d1,fl,Zn,Yg]<;>rfl))
  refine⟨rfl,rfl,rfl,?_,hv⟩
  simp (decide:=true) only [Ze,reduceIte,h3,Zoa]
 | cons b l ih =>
  intro i v ts hi hl hv h0 h3 h4
  simp only[List.length_cons] at hi
  have d1:decide ((i:Int)<(len:Int))=true:=decide_eq_true (by omega)
  have fl:Yr K 192 (.c (.slice n off len 1))=true:=by unfold Yr; rw[Fh]; rfl
  have w1:Yn .i64 ((i:Int)+1)=.int .i64 ((i+1:Nat):Int):=by rw[wrap64 (by omega) (by omega)]; congr 1
  have b1:Nat.blt i len=true:=Un (by omega)
  obtain⟨hb,ld⟩:=hl 0 b rfl
  rw[Nat.add_zero] at ld
  have w2:Yn .u32 (b:Int)=.int .u32 (b:Int):=Zag (by omega)
  have x1:=Za8 hv (show b<4294967296 by omega)
  have hx:Nat.xor v b<4294967296:=Nat.xor_lt_two_pow (n:=32) hv (by omega)
  iterate 12 (first|apply Goes.seq|apply Goes.skip|apply Goes.block|apply Goes.loop|((first|apply Goes.Zo|apply Goes.ops2 fits Hh Zb); · simp (decide:=true) only [go_sem,Zr,H.get_put,H.Zf,Zz,reduceIte,Nat.reduceAdd,Nat.reduceMul,Zx,Z0,asC,Ze,Ya,Z7,h0,h3,h4,d1,fl,w2,b1,ho,ld,x1,Zn,Yg,Fh,Du,Zz9,Zi3,Z3n,Mi,Nat.beq_refl,Nat.mul_one]<;>rfl))
  show Goes K Tryz.prog 27 none (q147 [1,1,0,1,2,2,1,0,2,1,1]) _ _ _ _
  rw[Zbq]
  refine Goes.block ((Zu6 Hh h 8 0 (Nat.xor v b) _ rfl hx ?_ ?_).mono ?_)
  ·simp (decide:=true) only [Ze,reduceIte]
  ·simp (decide:=true) only [Ze,reduceIte]
   rfl
  rintro x ds' ts' h' ⟨rfl,rfl,rfl,e3,e0,e4⟩
  have f0:Zm ts' 0=.w (.c (.slice n off len 1)):=by rw[e0]; simp (decide:=true) only [Ze,reduceIte,h0]
  have f4:Zm ts' 4=.w (.c (.int .i64 i)):=by rw[e4]; simp (decide:=true) only [Ze,reduceIte,h4]
  (apply Goes.ops2 fits Hh Zb; · simp (decide:=true) only [go_sem,Zr,H.get_put,H.Zf,Za,Zz,reduceIte,Nat.reduceAdd,Nat.reduceMul,f0,f4,e3,w1]<;>rfl)
  show Goes K Tryz.prog 27 none (.loop (q147 [1,1,0,1,2,2])) _ _ _ _
  rw[←Zn4]
  refine ih (i+1) _ _ (by omega) (fun j c hc=>?_) (Zhk 8 hx) ?_ ?_ ?_
  ·have:=hl (j+1) c (by simpa using hc)
   rwa [show i+(j+1)=i+1+j by omega] at this
  ·simp (decide:=true) only [Ze,reduceIte,f0]
  ·simp (decide:=true) only [Ze,reduceIte,e3]
  ·simp (decide:=true) only [Ze,reduceIte]
theorem Z3b (h:Go.Ev.H) (n off:Nat) (o:O) (l:List Nat) (ho:h.get n=some o) (hlen:l.length<4294967296) (hl:∀ j (b:Nat),l[j]? = some b→b<256∧Za ti5 (off+j) (some o)=some (.c (.int .u8 (b:Int)))) :
  Zg K Tryz.prog 147 [.c (.slice n off l.length 1)] h (.w (.c (.int .u32 (Zqy l)))) h:=by
 have e0:Zm (Jm 0 [.c (.slice n off l.length 1)] .nil) 0=.w (.c (.slice n off l.length 1)):=by rw[Y8]; rfl
 refine Zg.goes fits Hh (by kernel_rfl) (by kernel_rfl) (by kernel_rfl) (show Tryz.f147.body=some (q147 []) by kernel_rfl) rfl ?_
 have e1:Tryz.f147.results.toList=[.tmp 2]:=rfl
 show Goes K Tryz.prog 27 none _ _ _ _ _
 iterate 8 (first|apply Goes.seq|apply Goes.block|(apply Goes.ops2 fits Hh Zb; · simp (decide:=true) only [go_sem,Zr,H.get_put,H.Zf,Za,Zz,reduceIte,Nat.reduceAdd,Nat.reduceMul,e0]<;>rfl))
 show Goes K Tryz.prog 27 none (q147 [1,1,0,1,2]) _ _ _ _
 refine (Zvv Hh h n off l.length o ho hlen l 0 4294967295 _ (by omega) ?_ (by omega) ?_ ?_ ?_).mono ?_
 ·intro j b hb
  rw[Nat.zero_add]
  exact hl j b hb
 ·simp (decide:=true) only [Ze,reduceIte,e0]
 ·simp (decide:=true) only [Ze,reduceIte]
  rfl
 ·simp (decide:=true) only [Ze,reduceIte]
  rfl
 rintro x ds' ts' h' ⟨rfl,rfl,rfl,e3,hlt⟩
 have w1:Yn .u32 (4294967295 - (Zoa l 4294967295:Int))=.int .u32 (Zqy l:Int):=by
  have e:4294967295 - (Zoa l 4294967295:Int)=((Zqy l:Nat):Int):=by unfold Zqy; omega
  rw[e,Zag (by unfold Zqy; omega)]
 iterate 3 (first|apply Goes.seq|apply Goes.ret|(apply Goes.ops2 fits Hh Zb; · simp (decide:=true) only [go_sem,Zr,H.get_put,H.Zf,Za,Zz,reduceIte,Nat.reduceAdd,Nat.reduceMul,e3,w1]<;>rfl))
 simp (decide:=true) only [U1,Y3,finish,e1,Y1,evalW,Z0,asW,Ze,reduceIte,J5]
end
end Go.Proofs.YtdkcjalmhdofcaaGreatDoor
set_option maxRecDepth 100000
namespace Go.Proofs.YtdkcjalmhdofcaaGreatDoor
open Go.Ev
def Zwa (h:Go.Ev.H) (off len:Nat):Option O→Option (V × Go.Ev.H)
 | some (.row sz els _)=>bif Nat.ble (off % sz+len) sz&&Nat.blt len 4294967296 then (match Zd sz els off len with
  | some l=>(match Uk l with
   | some bs=>some (.w (.c (.int .u32 (Zqy bs:Nat))),h)
   | none=>none)
  | none=>none) else none
 | _=>none
noncomputable def Z1s (args:List W) (h:Go.Ev.H):Option (V × Go.Ev.H):=match args with
 | [.c (.slice n off len 1)]=>Zwa h off len (h.get n)
 | _=>none
def Zp3 (a b c d:Nat):Bool:=Nat.ble 1 a&&Nat.ble a 4&&Nat.ble 16 b&&Nat.ble b 512&&Nat.ble 4 c&&Nat.ble c 64&&Nat.beq (c % 4) 0&&Nat.ble 40 d&&Nat.ble d 256&&Nat.ble (3+c / 4) b&&Nat.ble (2+d+a * b) 2048
theorem Zfk {a b c d:Nat} (h:Zp3 a b c d=true):Fine a b c d:=by
 simp only[Zp3,Bool.and_eq_true] at h
 obtain⟨⟨⟨⟨⟨⟨⟨⟨⟨⟨h1,h2⟩,h3⟩,h4⟩,h5⟩,h6⟩,h7⟩,h8⟩,h9⟩,h10⟩,h11⟩:=h
 exact⟨Nat.le_of_ble_eq_true h1,Nat.le_of_ble_eq_true h2,Nat.le_of_ble_eq_true h3,Nat.le_of_ble_eq_true h4,Nat.le_of_ble_eq_true h5,Nat.le_of_ble_eq_true h6,Nat.eq_of_beq_eq_true h7,Nat.le_of_ble_eq_true h8,Nat.le_of_ble_eq_true h9,Nat.le_of_ble_eq_true h10,Nat.le_of_ble_eq_true h11⟩
def Zwm (args:List W) (h:Go.Ev.H):Option (V × Go.Ev.H):=match args with
 | [.g [.int .i64 (.ofNat a),.int .i64 (.ofNat b),.int .i64 (.ofNat c),.int .i64 (.ofNat d)]]=>bif Zp3 a b c d then some (.w (.c (.int .i64 (Od (Uw a b c d):Nat))),h) else none
 | _=>none
noncomputable def x1:Kn:=fun f args h=>bif Nat.beq f 147 then Z1s args h else bif Nat.beq f 51 then Zwm args h else none
section
variable (Hh:Hearts K Tryz.prog)
include Hh
theorem Zy2 {args:List W} {h h':Go.Ev.H} {v:V} (e:Z1s args h=some (v,h')):Zg K Tryz.prog 147 args h v h':=by
 unfold Z1s at e
 split at e
 ·rename_i n off len
  unfold Zwa at e
  split at e
  ·rename_i sz els ro ho
   cases hb:(Nat.ble (off % sz+len) sz&&Nat.blt len 4294967296) with
   | false=>rw[hb] at e; cases e
   | true =>
    rw[hb] at e
    simp only[Bool.and_eq_true] at hb
    simp only[cond_true] at e
    split at e
    ·rename_i l hl
     split at e
     ·rename_i bs hbs
      cases e
      obtain⟨l1,l2⟩:=X6 hl (Nat.le_of_ble_eq_true hb.1)
      obtain⟨n1,n2⟩:=Wh hbs
      have hlen:bs.length=len:=by omega
      have:=Z3b Hh h n off (.row sz els ro) bs ho (by rw[hlen]; simpa [Nat.blt_eq] using hb.2) (fun j b hj=>by
       obtain⟨m1,m2⟩:=n2 j b hj
       refine⟨m1,?_⟩
       have hjl:j<len:=by
        rcases Nat.lt_or_ge j bs.length with h1|h1
        ·omega
        ·rw[List.getElem?_eq_none h1] at hj; cases hj
       rw[Za,Sn,cond_false,l2 j hjl,m2]
       rfl)
      rw[hlen] at this
      exact this
     ·cases e
    ·cases e
  ·cases e
 ·cases e
theorem Zu4 {args:List W} {h h':Go.Ev.H} {v:V} (e:Zwm args h=some (v,h')):Zg K Tryz.prog 51 args h v h':=by
 unfold Zwm at e
 split at e
 ·rename_i a b c d
  cases hb:Zp3 a b c d with
  | false=>rw[hb] at e; cases e
  | true =>
   rw[hb] at e
   cases e
   exact Zt2 Hh (Zfk hb) h
 ·cases e
theorem Zqb:Zd5 K Tryz.prog x1:=by
 intro f args h v h' e
 unfold x1 at e
 cases h1:Nat.beq f 147 with
 | true =>
  rw[h1] at e
  obtain rfl:=Nat.eq_of_beq_eq_true h1
  exact Zy2 Hh e
 | false =>
  rw[h1] at e
  cases h2:Nat.beq f 51 with
  | true =>
   rw[h2] at e
   obtain rfl:=Nat.eq_of_beq_eq_true h2
   exact Zu4 Hh e
  | false=>rw[h2] at e; cases e
end
def by8 (l:List Nat):List C:=l.map fun (n:Nat)=>.int .u8 (n:Int)
def Zbj:List C:=by8 [81,82,78,49,1,0,0,1,2,0,24,0,8,0,40]++List.replicate 237 (.int .u8 0)++by8 [83,117,249,114]
def Zhi:List C:=by8 [20,0,7,0,1,0,0,0,20,0,8]++List.replicate 241 (.int .u8 0)++by8 [85,45,79,133]
def Zg0:List C:=by8 [81,74,78,76,4,0,0,0,1]++List.replicate 247 (.int .u8 0)
noncomputable def Zu3:List C:=match Zeo (evX K x1 3000 (.call 56 [.g Ng,.c (.int .i64 0),.g Zze] ⟨.nil,1⟩)) with
 | some (.tup (.g l :: _))=>l
 | _=>[]
theorem Z30:Zeo (evX K x1 3000 (.call 53 [.g [.int .i64 2,.int .i64 24,.int .i64 8,.int .i64 40,.int .u32 0]] ⟨.nil,1⟩))=some (.tup [.g Zbj,.c (.int .i64 0)]):=by kernel_rfl
theorem Z3v:Zeo (evX K x1 3000 (.call 54 ([.g (Yo 2 24 8 40)]++[.c (.slice 1 0 2 3)]) ⟨.node none (.node (some (.row 3 (Zem 20 8 2) true)) .nil .nil) .nil,2⟩))=some (.tup [.g Zhi,.c (.int .i64 0)]):=by kernel_rfl
theorem Z36:Zeo (evX K x1 3000 (.call 55 [.g Zvy] ⟨.nil,1⟩))=some (.tup [.g Zg0,.c (.int .i64 0)]):=by kernel_rfl
theorem Z35:Zeo (evX K x1 3000 (.call 56 [.g Ng,.c (.int .i64 0),.g Zze] ⟨.nil,1⟩))=some (.tup [.g Zu3,.c (.int .i64 0)]):=by kernel_rfl
end Go.Proofs.YtdkcjalmhdofcaaGreatDoor
