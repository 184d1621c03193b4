/- quernref04.Block, on the evaluator's level: bits as a block. -/
import Derived.Test.YteiljiijagmonaaGreatDoorRGk
set_option maxRecDepth 100000
set_option linter.unusedSimpArgs false
set_option linter.unusedVariables false
set_option linter.unusedSectionVars false
namespace Go.Proofs.YteiljiijagmonaaGreatDoor
open Go.Ev
noncomputable section
def Uc (f:Nat->Bool):List (List C):=(List.range 2048).map fun i=>[.bool (f i)]
def byteOf (f:Nat->Bool) (i:Nat):Nat->Nat
 | 0=>0
 | k+1=>2 * byteOf f i k+(f (8 * i+(7 - k))).toNat
theorem Zod (f:Nat->Bool) (i:Nat) (h:i<2048):read1 1 (Uc f) i=some (.bool (f i)):=by
 simp [Uc,h,read1,Nat.mod_one]
theorem Zjy (f:Nat->Bool) (i k:Nat):byteOf f i k<2 ^ k:=by
 induction k with
 | zero=>simp [byteOf]
 | succ k ih =>
  have:(f (8 * i+(7 - k))).toNat<=1:=by cases f (8 * i+(7 - k))<;>simp
  rw[byteOf,Nat.pow_succ]
  omega
noncomputable def q94 (p:Lq):Code:=piece p (Ug Tryz.f94)
theorem Zww:q94 [1,1,0,1,2]=.loop (q94 [1,1,0,1,2,2]):=kR
theorem Zem:q94 [1,1,0,1,2,2,1,0,2,1,0,1]=.block 2 (q94 [1,1,0,1,2,2,1,0,2,1,0,1,2]):=kR
theorem R8:q94 [1,1,0,1,2,2,1,0,2,1,0,1,2]=.loop (q94 [1,1,0,1,2,2,1,0,2,1,0,1,2,2]):=kR
section
variable (Hh:Hearts K Tryz.prog)
include Hh
theorem inner (f:Nat->Bool) (nb i:Nat) (hi:i<256) (ro:Bool) (h:Hq) (hb:h.get nb=some (.row 1 (Uc f) ro)):∀ (j:Nat) (ts:Zw),j<=8->Ze ts 0=.w (.c (.slice nb 0 2048 1))->Ze ts 4=.w (.c (.int .i64 i))->Ze ts 5=.w (.c (.int .i64 (byteOf f i (8 - j))))->Ze ts 6=.w (.c (.int .i64 ((j:Int) - 1))) ->
  Z7 31 none (q94 [1,1,0,1,2,2,1,0,2,1,0,1,2]) [] ts h fun x ds' ts' h'=>x=.exit 2/\ds'=[]/\h'=h/\Ze ts' 5=.w (.c (.int .i64 (byteOf f i 8)))/\∀ s,s<=4->Ze ts' s=Ze ts s:=by
 intro j
 induction j with
 | zero =>
  intro ts _ h0 h4 h5 h6
  iterate 6 (first|((first|apply Goes.Zl|apply Goes.ops2 fits Hh Za); · simp (decide:=true) only [go_sem,Zv,H.get_put,H.Zg,Zh,Z9,reduceIte,Nat.reduceAdd,Nat.reduceMul,Zz,Yb,asC,Zo,Yr,Yj,h6]<;>rfl)|apply gS)
  refine⟨rfl,rfl,rfl,?_,fun s hs=>?_⟩
  ·exact tZ h5
  ·simp (decide:=true) only [Yh hs]
 | succ j ih =>
  intro ts hj h0 h4 h5 h6
  have e6:((j+1:Nat):Int) - 1=(j:Int):=oM
  rw[e6] at h6
  have hlt:=Zjy f i (8 - (j+1))
  have hp:2 ^ (8 - (j+1))<=2 ^ 8:=Nat.pow_le_pow_right oM oM
  have hstep:byteOf f i (8 - j)=2 * byteOf f i (8 - (j+1))+(f (8 * i+j)).toNat:=by
   have e:8 - j=(8 - (j+1))+1:=oM
   rw[e,byteOf]
   congr 4
   omega
  obtain⟨x,hx⟩:=xzE (byteOf f i (8 - (j+1)))
  rw[hx] at h5 hlt hstep
  have d1:decide ((j:Int) >= 0)=true:=decide_eq_true oM
  have w1:Jb .i64 (2 * (x:Int))=.int .i64 (2 * x):=wrap64 oM oM
  have w2:Jb .i64 (8 * (i:Int))=.int .i64 ((8 * i:Nat):Int):=by rw[wrap64 oM oM]; congr 1
  have w3:Jb .i64 (((8 * i:Nat):Int)+(j:Int))=.int .i64 ((8 * i+j:Nat):Int):=by rw[wrap64 oM oM]; congr 1
  have w4:Jb .i64 (2 * (x:Int)+1)=.int .i64 (2 * x+1):=wrap64 oM oM
  have w5:Jb .i64 ((j:Int) - 1)=.int .i64 ((j:Int) - 1):=wrap64 oM oM
  have b1:Nat.blt (8 * i+j) 2048=true:=Gb oM
  have r1:=Zod f (8 * i+j) oM
  have n1:U9 (some (.int .i64 ((8 * i+j:Nat):Int)))=some (8 * i+j):=rfl
  cases hf:f (8 * i+j) with
  | true =>
   rw[hf] at r1 hstep
   iterate 15 (first|((first|apply Goes.Zl|apply Goes.ops2 fits Hh Za); · simp (decide:=true) only [go_sem,Zv,H.get_put,H.Zg,Zh,Z9,reduceIte,Nat.reduceAdd,Nat.reduceMul,Zz,Yb,asC,Zo,Yr,Yj,h0,h4,h5,h6,d1,w1,w2,w3,w4,w5,b1,r1,n1,hb,Sg,Q7,Qb,Zfb,Z5j,Nat.beq_refl,Nat.zero_add,Nat.mul_one,cW]<;>rfl)|apply gS)
   show Z7 31 none (.loop (q94 [1,1,0,1,2,2,1,0,2,1,0,1,2,2])) _ _ _ _
   rw[<-R8]
   refine (ih _ oM ?_ ?_ ?_ ?_).mono ?_
   ·exact tZ h0
   ·exact tZ h4
   ·simp (decide:=true) only [Zo,reduceIte,hstep,Bool.toNat_true]
    rfl
   ·exact tY
   ·rintro y ds' ts' h' ⟨e1,e2,e3,e4,e5⟩
    refine⟨e1,e2,e3,e4,fun s hs=>?_⟩
    rw[e5 s hs]
    simp (decide:=true) only [Yh hs]
  | false =>
   rw[hf] at r1 hstep
   iterate 15 (first|((first|apply Goes.Zl|apply Goes.ops2 fits Hh Za); · simp (decide:=true) only [go_sem,Zv,H.get_put,H.Zg,Zh,Z9,reduceIte,Nat.reduceAdd,Nat.reduceMul,Zz,Yb,asC,Zo,Yr,Yj,h0,h4,h5,h6,d1,w1,w2,w3,w4,w5,b1,r1,n1,hb,Sg,Q7,Qb,Zfb,Z5j,Nat.beq_refl,Nat.zero_add,Nat.mul_one,cW]<;>rfl)|apply gS)
   show Z7 31 none (.loop (q94 [1,1,0,1,2,2,1,0,2,1,0,1,2,2])) _ _ _ _
   rw[<-R8]
   refine (ih _ oM ?_ ?_ ?_ ?_).mono ?_
   ·exact tZ h0
   ·exact tZ h4
   ·simp (decide:=true) only [Zo,reduceIte,hstep,Bool.toNat_false]
    rfl
   ·exact tY
   ·rintro y ds' ts' h' ⟨e1,e2,e3,e4,e5⟩
    refine⟨e1,e2,e3,e4,fun s hs=>?_⟩
    rw[e5 s hs]
    simp (decide:=true) only [Yh hs]
def Zbf (f:Nat->Bool) (i:Nat):List C:=(List.range 256).map fun t=>.int .u8 (if t<i then byteOf f t 8 else 0:Nat)
def pack (f:Nat->Bool):List C:=(List.range 256).map fun t=>.int .u8 (byteOf f t 8:Nat)
omit Hh in
theorem Zw3 (f:Nat->Bool):Zbf f 256=pack f:=by
 unfold Zbf pack
 refine List.map_congr_left fun t ht=>?_
 rw[if_pos (List.mem_range.1 ht)]
omit Hh in
theorem Zw4 (f:Nat->Bool):Zbf f 0=List.replicate 256 (.int .u8 0):=by
 unfold Zbf
 refine List.ext_getElem (by rw[List.length_map,List.length_range,List.length_replicate]) fun t h1 h2=>?_
 rw[List.getElem_replicate,List.getElem_map,if_neg oM]
 rfl
omit Hh in
theorem Zp4 (f:Nat->Bool) (i:Nat):(Zbf f i).length=256:=by simp [Zbf]
omit Hh in
theorem Zsb (f:Nat->Bool) (i:Nat) (hi:i<256):Z5 256 [Zbf f i] i [.int .u8 (byteOf f i 8:Nat)]=some [Zbf f (i+1)]:=by
 have e1:i / 256=0:=oM
 have e2:i % 256=i:=oM
 have e3:Nat.blt i (Zbf f i).length=true:=Gb (by rw[Zp4]; exact hi)
 simp only[Z5,e1,e2,List.getElem?_cons_zero,e3,cond_true,List.set_cons_zero]
 congr 2
 refine List.ext_getElem (by simp [Zbf]) fun t h1 h2=>?_
 simp only[List.getElem_set]
 simp only[Zbf,List.getElem_map,List.getElem_range]
 by_cases e:i=t
 ·subst e
  simp
 ·rw[if_neg e]
  congr 2
  by_cases h3:t<i
  ·rw[if_pos h3,if_pos oM]
  ·rw[if_neg h3,if_neg oM]
omit Hh in
theorem Zwp (f:Nat->Bool):(V.w (.g (pack f))).flat=true:=by
 simp only[V.flat,W.flat,List.all_eq_true]
 intro x hx
 simp only[pack,List.mem_map] at hx
 obtain⟨t,_,rfl⟩:=hx
 rfl
theorem outer (f:Nat->Bool) (nb r3:Nat) (hne:nb≠r3) (ro:Bool):∀ (k i:Nat) (ts:Zw) (h:Hq),i+k=256->h.get nb=some (.row 1 (Uc f) ro)->h.get r3=some (.row 256 [Zbf f i] false)->Ze ts 0=.w (.c (.slice nb 0 2048 1))->Ze ts 3=.w (.c (.ptr r3 0))->Ze ts 4=.w (.c (.int .i64 i)) ->
  Z7 31 none (q94 [1,1,0,1,2]) [] ts h fun x ds' ts' h'=>x=.exit 0/\ds'=[]/\h'.next=h.next/\(∀ n,n≠r3->h'.get n=h.get n)/\h'.get r3=some (.row 256 [pack f] false)/\∀ s,s<=3->Ze ts' s=Ze ts s:=by
 intro k
 induction k with
 | zero =>
  intro i ts h hi hb hr h0 h3 h4
  have ei:i=256:=oM
  subst ei
  iterate 6 (first|((first|apply Goes.Zl|apply Goes.ops2 fits Hh Za); · simp (decide:=true) only [go_sem,Zv,H.get_put,H.Zg,Zh,Z9,reduceIte,Nat.reduceAdd,Nat.reduceMul,Zz,Yb,asC,Zo,Yr,Yj,h4]<;>rfl)|apply gS)
  refine⟨rfl,rfl,rfl,fun _ _=>rfl,by rw[hr,Zw3],fun s hs=>?_⟩
  simp (decide:=true) only [Yh hs]
 | succ k ih =>
  intro i ts h hi hb hr h0 h3 h4
  have d1:decide ((i:Int)<256)=true:=decide_eq_true oM
  iterate 13 (first|((first|apply Goes.Zl|apply Goes.ops2 fits Hh Za); · simp (decide:=true) only [go_sem,Zv,H.get_put,H.Zg,Zh,Z9,reduceIte,Nat.reduceAdd,Nat.reduceMul,Zz,Yb,asC,Zo,Yr,Yj,h4,d1]<;>rfl)|apply gS)
  show Z7 31 none (q94 [1,1,0,1,2,2,1,0,2,1,0,1]) _ _ _ _
  rw[Zem]
  refine Jc ((inner Hh f nb i oM ro h hb 8 _ oM ?_ ?_ ?_ ?_).mono ?_)
  ·exact tZ h0
  ·exact tZ h4
  ·simp (decide:=true) only [Zo,reduceIte]
   rfl
  ·simp (decide:=true) only [Zo,reduceIte]
   rfl
  rintro x ds' ts' h' ⟨rfl,rfl,rfl,e5,elow⟩
  have f0:Ze ts' 0=.w (.c (.slice nb 0 2048 1)):=by rw[elow 0 dM]; simp (decide:=true) only [Zo,reduceIte,h0]
  have f2:Ze ts' 2=Ze ts 2:=by rw[elow 2 dM]; simp (decide:=true) only [Zo,reduceIte]
  have f1:Ze ts' 1=Ze ts 1:=by rw[elow 1 dM]; simp (decide:=true) only [Zo,reduceIte]
  have f3:Ze ts' 3=.w (.c (.ptr r3 0)):=by rw[elow 3 dM]; simp (decide:=true) only [Zo,reduceIte,h3]
  have f4:Ze ts' 4=.w (.c (.int .i64 i)):=by rw[elow 4 dM]; simp (decide:=true) only [Zo,reduceIte,h4]
  have hlt:=Zjy f i 8
  have w8:Jb .u8 (byteOf f i 8:Int)=.int .u8 (byteOf f i 8):=by rw[Z05]; congr 1; omega
  have w9:Jb .i64 ((i:Int)+1)=.int .i64 ((i+1:Nat):Int):=by rw[wrap64 oM oM]; congr 1
  have b1:Nat.blt i 256=true:=Gb oM
  have wr:=Zsb f i oM
  show Z7 31 none (q94 [1,1,0,1,2,2,1,0,2,1,1]) _ _ _ _
  iterate 2 ((apply Goes.ops2 fits Hh Za; · simp (decide:=true) only [go_sem,Zv,H.get_put,H.Zg,Zh,Z9,reduceIte,Nat.reduceAdd,Nat.reduceMul,f0,f2,f3,f4,e5,w8,w9,b1,wr,hr,Us,Rh,Oj,Z6p,Z9b,Qz,Nat.beq_refl,Nat.zero_add,Nat.mul_one]<;>rfl))
  show Z7 31 none (.loop (q94 [1,1,0,1,2,2])) _ _ _ _
  rw[<-Zww]
  refine (ih (i+1) _ _ oM ?_ ?_ ?_ ?_ ?_).mono ?_
  ·rw[H.get_put,if_neg hne]; exact hb
  ·rw[H.get_put,if_pos rfl]
  ·exact tZ f0
  ·exact tZ f3
  ·exact tY
  ·rintro x ds' ts'' h'' ⟨g1,g2,g3,g4,g5,g6⟩
   refine⟨g1,g2,g3,fun n hn=>?_,g5,fun s hs=>?_⟩
   ·rw[g4 n hn,H.get_put,if_neg hn]
   ·rw[g6 s hs]
    simp (decide:=true) only [Yh hs]
    rw[elow s (Nat.le_trans hs dM)]
    simp (decide:=true) only [Yh hs]
theorem Zch (f:Nat->Bool) (nb:Nat) (ro:Bool) (h:Hq) (hb:h.get nb=some (.row 1 (Uc f) ro)):Zi 94 [.c (.slice nb 0 2048 1)] h (.w (.g (pack f))) h:=by
 refine Zy.tidy ⟨_,Tryz.func94,kR,of_decide_eq_true kR⟩ fun tidy=>?_
 have hnb:=tidy nb _ hb
 have z54:ti66.zero.cells=Zbf f 0:=by rw[Zw4]; rfl
 have e0:Ze (U2 0 [.c (.slice nb 0 2048 1)] .nil) 0=.w (.c (.slice nb 0 2048 1)):=by rw[Gl]; rfl
 suffices hs:∃ h',(∀ n,n<h.next->h'.get n=h.get n)/\Zi 94 [.c (.slice nb 0 2048 1)] h (.w (.g (pack f))) h' by
  obtain⟨h',e2,c⟩:=hs
  exact c.quiet (Zwp f) e2
 suffices hs:Z7 31 none (q94 []) [] (U2 0 [.c (.slice nb 0 2048 1)] .nil) h fun x ds ts h1=>(∀ n,n<h.next->h1.get n=h.get n)/\leave K Tryz.f94 (some (.at x ds ts h1))=some (.val (.w (.g (pack f))) h1) by
  obtain⟨x,ds,ts,h1,g,e2,e3⟩:=hs
  exact⟨h1,e2,Zy.body fits Hh kR kR kR kR rfl g e3⟩
 iterate 8 (first|(apply Goes.ops2 fits Hh Za; · simp (decide:=true) only [go_sem,Zv,H.get_put,H.Zg,Zh,Z9,reduceIte,Nat.reduceAdd,Nat.reduceMul,e0,Us,Ga,z54]<;>rfl)|apply gS)
 show Z7 31 none (q94 [1,1,0,1,2]) _ _ _ _
 refine (outer Hh f nb (h.next+1) oM ro 256 0 _ _ rfl ?_ ?_ ?_ ?_ ?_).mono ?_
 ·rw[H.Zg,H.Zc,if_neg oM,H.Zg,if_neg oM]; exact hb
 ·rw[H.Zg,H.Zc,if_pos rfl]
 ·exact tZ e0
 ·simp (decide:=true) only [Zo,reduceIte,H.Zc]
 ·simp (decide:=true) only [Zo,reduceIte]
  rfl
 rintro x ds' ts' h' ⟨rfl,rfl,hn,hk,hr,elow⟩
 have f2:Ze ts' 2=.w (.c (.ptr h.next 0)):=by rw[elow 2 dM]; simp (decide:=true) only [Zo,reduceIte]
 have f3:Ze ts' 3=.w (.c (.ptr (h.next+1) 0)):=by rw[elow 3 dM]; simp (decide:=true) only [Zo,reduceIte,H.Zc]
 have hr2:h'.get h.next=some (.row 256 [Zbf f 0] false):=by
  rw[hk h.next oM,H.Zg,H.Zc,if_neg oM,H.Zg,if_pos rfl]
 have rd:Zk 256 [pack f] 0 256=some (pack f):=by
  have e:(pack f).length=256:=by simp [pack]
  have:=Qy (l:=pack f) oM
  rwa [e] at this
 have wr:Z5 256 [Zbf f 0] 0 (pack f)=some [pack f]:=by
  have e:(pack f).length=256:=by simp [pack]
  have:=Xv (l:=Zbf f 0) (l':=pack f) oM (by rw[Zp4,e])
  rwa [e] at this
 have lp:(pack f).length=256:=by simp [pack]
 show Z7 31 none (q94 [1,1,1]) _ _ _ _
 iterate 3 (first|(apply Goes.ops2 fits Hh Za; · simp (decide:=true) only [go_sem,Zv,H.get_put,H.Zg,Zh,Z9,reduceIte,Nat.reduceAdd,Nat.reduceMul,f2,f3,hr,hr2,rd,wr,lp,Us,Gx,Ga,gW,Nat.beq_refl]<;>rfl)|apply gS)
 refine⟨fun n hn'=>?_,?_⟩
 ·rw[H.get_put,if_neg oM,hk n oM,H.Zg,H.Zc,if_neg oM,H.Zg,if_neg oM]
 ·have e1:Tryz.f94.results.toList=[.cell 2 66]:=rfl
  simp (decide:=true) only [D5,Jt,finish,e1,Jo,Zz,Yb,asC,Zo,reduceIte,f2,Go.Ev.load,Us,Zh,Gx,Ga,H.get_put,cond_true,rd,gW,O0]
end
noncomputable def q46 (p:Lq):Code:=piece p (Ug Tryz.f46)
theorem Zdc:q46 [1,1,1,1,1,0,1,2]=.loop (q46 [1,1,1,1,1,0,1,2,2]):=kR
theorem Bp:q46 [1,1,1,1,1,1,1,1,0,1,2]=.loop (q46 [1,1,1,1,1,1,1,1,0,1,2,2]):=kR
theorem Xk:q46 [1,1,1,1,1,1,1,1,0,1,2,2,1,0,2,1,0,1]=.block 4 (q46 [1,1,1,1,1,1,1,1,0,1,2,2,1,0,2,1,0,1,2]):=kR
theorem Jh:q46 [1,1,1,1,1,1,1,1,0,1,2,2,1,0,2,1,0,1,2]=.loop (q46 [1,1,1,1,1,1,1,1,0,1,2,2,1,0,2,1,0,1,2,2]):=kR
def Ul (sz ino:Nat) (k a:Int) (i:Nat):Bool:=if k=4 then (decide (i<2+ino / 4) || decide (sz<=i)) else if k=5 then (decide (ino<=i) || (decide (i=0)&&decide (a=0))) else false
def upto (f:Nat->Bool) (i:Nat):Nat->Bool:=fun j=>decide (j<i)&&f j
theorem Wu (f:Nat->Bool) (i:Nat) (hi:i<2048) (v:Bool) (hv:v=f i):Z5 1 (Uc (upto f i)) i [.bool v]=some (Uc (upto f (i+1))):=by
 subst hv
 have hx:(Uc (upto f i))[i]? = some [.bool (upto f i i)]:=by simp [Uc,hi]
 rw[Zng hx]
 congr 1
 refine List.ext_getElem (by simp [Uc]) fun t h1 h2=>?_
 simp only[List.getElem_set]
 simp only[Uc,List.getElem_map,List.getElem_range,upto]
 by_cases e:i=t
 ·subst e; simp
 ·rw[if_neg e]
  congr 3
  simp only[decide_eq_decide]
  omega
theorem Zvp (f:Nat->Bool) (i:Nat) (hv:f i=false):Uc (upto f i)=Uc (upto f (i+1)):=by
 unfold Uc
 refine List.map_congr_left fun t _=>?_
 simp only[upto]
 by_cases e:t=i
 ·subst e; simp [hv]
 ·congr 3
  simp only[decide_eq_decide]
  omega
section
variable (Hh:Hearts K Tryz.prog)
include Hh
theorem mk4 {gr sz ino jr:Nat} (F:Fine gr sz ino jr) (p nA nb b:Nat) (hnp:nb≠p) (hnA:nb≠nA) (L:List (List C)) (roA:Bool) (kd a c d:Int) (hx':L[b]? = some (thing kd a c d)) (hlen:L.length<=4000):∀ (k i:Nat) (ts:Zw) (h:Hq),i+k=2048->h.get p=some (.row 4 [[.int .i64 gr,.int .i64 sz,.int .i64 ino,.int .i64 jr]] false)->h.get nA=some (.row 4 L roA)->h.get nb=some (.row 1 (Uc (upto (Ul sz ino kd a) i)) false) ->
  Ze ts 1=.w (.c (.ptr p 0))->Ze ts 4=.w (.c (.slice nA 0 L.length 4))->Ze ts 8=.w (.c (.int .i64 b))->Ze ts 9=.w (.c (.slice nb 0 2048 1))->Ze ts 10=.w (.c (.int .i64 i))->nb<h.next ->
  Z7 159 none (q46 [1,1,1,1,1,1,1,1,0,1,2,2,1,0,2,1,0,1,2]) [] ts h fun x ds' ts' h'=>x=.exit 4/\ds'=[]/\h'.next=h.next/\h'.get nb=some (.row 1 (Uc (Ul sz ino kd a)) false)/\(∀ m,m≠nb->h'.get m=h.get m)/\∀ s,s<=9->Ze ts' s=Ze ts s:=by
 obtain⟨g1,g2,g3,g4,g5,g6,g7,g8,g9,g10,g11⟩:=F
 intro k
 induction k with
 | zero =>
  intro i ts h hi hp hA hb h1 h4 h8 h9 h10 hnb'
  have ei:i=2048:=oM
  subst ei
  have eb:Uc (upto (Ul sz ino kd a) 2048)=Uc (Ul sz ino kd a):=by
   unfold Uc
   refine List.map_congr_left fun t ht=>?_
   have:=List.mem_range.1 ht
   simp [upto,this]
  rw[eb] at hb
  iterate 6 (first|((first|apply Goes.Zl|apply Goes.ops2 fits Hh Za); · simp (decide:=true) only [go_sem,Zv,H.get_put,H.Zg,Zh,Z9,reduceIte,Nat.reduceAdd,Nat.reduceMul,Zz,Yb,asC,Zo,Yr,Yj,h10]<;>rfl)|apply gS)
  refine⟨rfl,rfl,rfl,hb,fun _ _=>rfl,fun s hs=>?_⟩
  simp (decide:=true) only [Yh hs]
 | succ k ih =>
  intro i ts h hi hp hA hb h1 h4 h8 h9 h10 hnb'
  have hbl:b<L.length:=by
   rcases Nat.lt_or_ge b L.length with h2|h2
   ·exact h2
   ·rw[List.getElem?_eq_none h2] at hx'; cases hx'
  have r0:read1 4 L (b * 4)=some (.int .u8 kd):=Mr (sz:=4) (j:=0) oM hx'
  have r1:read1 4 L (b * 4+1)=some (.int .i64 a):=Mr (sz:=4) (j:=1) oM hx'
  have c1:decide ((i:Int)<2048)=true:=decide_eq_true oM
  have b1:Nat.blt b L.length=true:=Gb hbl
  have b2:Nat.blt i 2048=true:=Gb oM
  have q1:R6 .i64 (ino:Int) 4=some (.int .i64 ((ino / 4:Nat):Int)):=by
   show some (Jb .i64 ((ino:Int).tdiv 4))=_
   rw[show (ino:Int).tdiv 4=((ino / 4:Nat):Int) from rfl,wrap64 oM oM]
  have w0:Jb .i64 (2+((ino / 4:Nat):Int))=.int .i64 ((2+ino / 4:Nat):Int):=by rw[wrap64 oM oM]; congr 1
  have w1:Jb .i64 ((i:Int)+1)=.int .i64 ((i+1:Nat):Int):=by rw[wrap64 oM oM]; congr 1
  have hn1:nA≠nb:=Ne.symm hnA
  by_cases k4:kd=4
  ·have e4:(kd == 4)=true:=by rw[k4]; rfl
   have e5:(kd == 5)=false:=by rw[k4]; rfl
   by_cases hi1:i<2+ino / 4
   ·have c2:decide ((i:Int)<((2+ino / 4:Nat):Int))=true:=decide_eq_true oM
    have wr:=Wu (Ul sz ino kd a) i oM true (by simp [Ul,k4,hi1])
    iterate 18 (first|((first|apply Goes.Zl|apply Goes.ops2 fits Hh Za); · simp (decide:=true) only [go_sem,Zv,H.get_put,H.Zg,Zh,Z9,reduceIte,Nat.reduceAdd,Nat.reduceMul,Zz,Yb,asC,Zo,Yr,Yj,h1,h4,h8,h9,h10,hp,hA,hb,hn1,c1,b1,b2,r0,r1,q1,w0,w1,wr,e4,e5,c2,Zkf,Ti,geo1,geo2,Zaj,Zak,Ja,Ud,Ue,Ot,Sg,Qb,Q7,Zfb,Oj,Es,Ei,Rh,Qz,Zez,cW,Nat.zero_add,Nat.add_zero,Nat.mul_one,Nat.beq_refl]<;>rfl)|apply gS)
    show Z7 159 none (.loop (q46 [1,1,1,1,1,1,1,1,0,1,2,2,1,0,2,1,0,1,2,2])) _ _ _ _
    rw[<-Jh]
    refine (ih (i+1) _ _ oM ?_ ?_ ?_ ?_ ?_ ?_ ?_ ?_ ?_).mono ?_
    ·rw[H.get_put,if_neg (Ne.symm hnp)]; exact hp
    ·rw[H.get_put,if_neg (Ne.symm hnA)]; exact hA
    ·rw[H.get_put,if_pos rfl]
    ·exact tZ h1
    ·exact tZ h4
    ·exact tZ h8
    ·exact tZ h9
    ·exact tY
    ·exact hnb'
    ·rintro x ds' ts' h' ⟨e1,e2,e3,e4,e5,e6⟩
     refine⟨e1,e2,e3,e4,fun m hm=>?_,fun s hs=>?_⟩
     ·rw[e5 m hm,H.get_put,if_neg hm]
     ·rw[e6 s hs]
      simp (decide:=true) only [Yh hs]
   ·have c2:decide ((i:Int)<((2+ino / 4:Nat):Int))=false:=decide_eq_false oM
    have wr:=Wu (Ul sz ino kd a) i oM (decide ((i:Int) >= (sz:Int))) (by simp [Ul,k4,hi1])
    iterate 18 (first|((first|apply Goes.Zl|apply Goes.ops2 fits Hh Za); · simp (decide:=true) only [go_sem,Zv,H.get_put,H.Zg,Zh,Z9,reduceIte,Nat.reduceAdd,Nat.reduceMul,Zz,Yb,asC,Zo,Yr,Yj,h1,h4,h8,h9,h10,hp,hA,hb,hn1,c1,b1,b2,r0,r1,q1,w0,w1,wr,e4,e5,c2,Zkf,Ti,geo1,geo2,Zaj,Zak,Ja,Ud,Ue,Ot,Sg,Qb,Q7,Zfb,Oj,Es,Ei,Rh,Qz,Zez,cW,Nat.zero_add,Nat.add_zero,Nat.mul_one,Nat.beq_refl]<;>rfl)|apply gS)
    show Z7 159 none (.loop (q46 [1,1,1,1,1,1,1,1,0,1,2,2,1,0,2,1,0,1,2,2])) _ _ _ _
    rw[<-Jh]
    refine (ih (i+1) _ _ oM ?_ ?_ ?_ ?_ ?_ ?_ ?_ ?_ ?_).mono ?_
    ·rw[H.get_put,if_neg (Ne.symm hnp)]; exact hp
    ·rw[H.get_put,if_neg (Ne.symm hnA)]; exact hA
    ·rw[H.get_put,if_pos rfl]
    ·exact tZ h1
    ·exact tZ h4
    ·exact tZ h8
    ·exact tZ h9
    ·exact tY
    ·exact hnb'
    ·rintro x ds' ts' h' ⟨e1,e2,e3,e4,e5,e6⟩
     refine⟨e1,e2,e3,e4,fun m hm=>?_,fun s hs=>?_⟩
     ·rw[e5 m hm,H.get_put,if_neg hm]
     ·rw[e6 s hs]
      simp (decide:=true) only [Yh hs]
  ·have e4:(kd == 4)=false:=by simpa using k4
   by_cases k5:kd=5
   ·have e5:(kd == 5)=true:=by rw[k5]; rfl
    by_cases hi1:ino<=i
    ·have c2:decide ((i:Int) >= (ino:Int))=true:=decide_eq_true oM
     have wr:=Wu (Ul sz ino kd a) i oM true (by simp [Ul,k5,hi1])
     iterate 18 (first|((first|apply Goes.Zl|apply Goes.ops2 fits Hh Za); · simp (decide:=true) only [go_sem,Zv,H.get_put,H.Zg,Zh,Z9,reduceIte,Nat.reduceAdd,Nat.reduceMul,Zz,Yb,asC,Zo,Yr,Yj,h1,h4,h8,h9,h10,hp,hA,hb,hn1,c1,b1,b2,r0,r1,q1,w0,w1,wr,e4,e5,c2,Zkf,Ti,geo1,geo2,Zaj,Zak,Ja,Ud,Ue,Ot,Sg,Qb,Q7,Zfb,Oj,Es,Ei,Rh,Qz,Zez,cW,Nat.zero_add,Nat.add_zero,Nat.mul_one,Nat.beq_refl]<;>rfl)|apply gS)
     show Z7 159 none (.loop (q46 [1,1,1,1,1,1,1,1,0,1,2,2,1,0,2,1,0,1,2,2])) _ _ _ _
     rw[<-Jh]
     refine (ih (i+1) _ _ oM ?_ ?_ ?_ ?_ ?_ ?_ ?_ ?_ ?_).mono ?_
     ·rw[H.get_put,if_neg (Ne.symm hnp)]; exact hp
     ·rw[H.get_put,if_neg (Ne.symm hnA)]; exact hA
     ·rw[H.get_put,if_pos rfl]
     ·exact tZ h1
     ·exact tZ h4
     ·exact tZ h8
     ·exact tZ h9
     ·exact tY
     ·exact hnb'
     ·rintro x ds' ts' h' ⟨e1,e2,e3,e4,e5,e6⟩
      refine⟨e1,e2,e3,e4,fun m hm=>?_,fun s hs=>?_⟩
      ·rw[e5 m hm,H.get_put,if_neg hm]
      ·rw[e6 s hs]
       simp (decide:=true) only [Yh hs]
    ·have c2:decide ((i:Int) >= (ino:Int))=false:=decide_eq_false oM
     by_cases hi0:i=0
     ·have c3:(((i:Nat):Int) == 0)=true:=by rw[hi0]; rfl
      have wr:=Wu (Ul sz ino kd a) i oM (a == 0) (by
       rw[Ul,if_neg k4,if_pos k5,decide_eq_false hi1,decide_eq_true hi0]
       rfl)
      iterate 18 (first|((first|apply Goes.Zl|apply Goes.ops2 fits Hh Za); · simp (decide:=true) only [go_sem,Zv,H.get_put,H.Zg,Zh,Z9,reduceIte,Nat.reduceAdd,Nat.reduceMul,Zz,Yb,asC,Zo,Yr,Yj,h1,h4,h8,h9,h10,hp,hA,hb,hn1,c1,b1,b2,r0,r1,q1,w0,w1,wr,e4,e5,c2,c3,Zkf,Ti,geo1,geo2,Zaj,Zak,Ja,Ud,Ue,Ot,Sg,Qb,Q7,Zfb,Oj,Es,Ei,Rh,Qz,Zez,cW,Nat.zero_add,Nat.add_zero,Nat.mul_one,Nat.beq_refl]<;>rfl)|apply gS)
      show Z7 159 none (.loop (q46 [1,1,1,1,1,1,1,1,0,1,2,2,1,0,2,1,0,1,2,2])) _ _ _ _
      rw[<-Jh]
      refine (ih (i+1) _ _ oM ?_ ?_ ?_ ?_ ?_ ?_ ?_ ?_ ?_).mono ?_
      ·rw[H.get_put,if_neg (Ne.symm hnp)]; exact hp
      ·rw[H.get_put,if_neg (Ne.symm hnA)]; exact hA
      ·rw[H.get_put,if_pos rfl]
      ·exact tZ h1
      ·exact tZ h4
      ·exact tZ h8
      ·exact tZ h9
      ·exact tY
      ·exact hnb'
      ·rintro x ds' ts' h' ⟨e1,e2,e3,e4,e5,e6⟩
       refine⟨e1,e2,e3,e4,fun m hm=>?_,fun s hs=>?_⟩
       ·rw[e5 m hm,H.get_put,if_neg hm]
       ·rw[e6 s hs]
        simp (decide:=true) only [Yh hs]
     ·have c3:(((i:Nat):Int) == 0)=false:=by simpa using hi0
      have wr:=Wu (Ul sz ino kd a) i oM false (by simp [Ul,k5,hi1,hi0])
      iterate 18 (first|((first|apply Goes.Zl|apply Goes.ops2 fits Hh Za); · simp (decide:=true) only [go_sem,Zv,H.get_put,H.Zg,Zh,Z9,reduceIte,Nat.reduceAdd,Nat.reduceMul,Zz,Yb,asC,Zo,Yr,Yj,h1,h4,h8,h9,h10,hp,hA,hb,hn1,c1,b1,b2,r0,r1,q1,w0,w1,wr,e4,e5,c2,c3,Zkf,Ti,geo1,geo2,Zaj,Zak,Ja,Ud,Ue,Ot,Sg,Qb,Q7,Zfb,Oj,Es,Ei,Rh,Qz,Zez,cW,Nat.zero_add,Nat.add_zero,Nat.mul_one,Nat.beq_refl]<;>rfl)|apply gS)
      show Z7 159 none (.loop (q46 [1,1,1,1,1,1,1,1,0,1,2,2,1,0,2,1,0,1,2,2])) _ _ _ _
      rw[<-Jh]
      refine (ih (i+1) _ _ oM ?_ ?_ ?_ ?_ ?_ ?_ ?_ ?_ ?_).mono ?_
      ·rw[H.get_put,if_neg (Ne.symm hnp)]; exact hp
      ·rw[H.get_put,if_neg (Ne.symm hnA)]; exact hA
      ·rw[H.get_put,if_pos rfl]
      ·exact tZ h1
      ·exact tZ h4
      ·exact tZ h8
      ·exact tZ h9
      ·exact tY
      ·exact hnb'
      ·rintro x ds' ts' h' ⟨e1,e2,e3,e4,e5,e6⟩
       refine⟨e1,e2,e3,e4,fun m hm=>?_,fun s hs=>?_⟩
       ·rw[e5 m hm,H.get_put,if_neg hm]
       ·rw[e6 s hs]
        simp (decide:=true) only [Yh hs]
   ·have e5:(kd == 5)=false:=by simpa using k5
    have hskip:h.get nb=some (.row 1 (Uc (upto (Ul sz ino kd a) (i+1))) false):=by rw[<-Zvp _ _ (by simp [Ul,k4,k5])]; exact hb
    have wr:=hskip
    iterate 18 (first|((first|apply Goes.Zl|apply Goes.ops2 fits Hh Za); · simp (decide:=true) only [go_sem,Zv,H.get_put,H.Zg,Zh,Z9,reduceIte,Nat.reduceAdd,Nat.reduceMul,Zz,Yb,asC,Zo,Yr,Yj,h1,h4,h8,h9,h10,hp,hA,hb,hn1,c1,b1,b2,r0,r1,q1,w0,w1,wr,e4,e5,Zkf,Ti,geo1,geo2,Zaj,Zak,Ja,Ud,Ue,Ot,Sg,Qb,Q7,Zfb,Oj,Es,Ei,Rh,Qz,Zez,cW,Nat.zero_add,Nat.add_zero,Nat.mul_one,Nat.beq_refl]<;>rfl)|apply gS)
    show Z7 159 none (.loop (q46 [1,1,1,1,1,1,1,1,0,1,2,2,1,0,2,1,0,1,2,2])) _ _ _ _
    rw[<-Jh]
    refine (ih (i+1) _ _ oM ?_ ?_ ?_ ?_ ?_ ?_ ?_ ?_ ?_).mono ?_
    ·exact hp
    ·exact hA
    ·exact hskip
    ·exact tZ h1
    ·exact tZ h4
    ·exact tZ h8
    ·exact tZ h9
    ·exact tY
    ·exact hnb'
    ·rintro x ds' ts' h' ⟨e1,e2,e3,e4,e5,e6⟩
     refine⟨e1,e2,e3,e4,e5,fun s hs=>?_⟩
     rw[e6 s hs]
     simp (decide:=true) only [Yh hs]
end
def Vt:List C:=List.replicate 256 (.int .u8 0)
def Zog (S D Hd I:List C) (sz ino b:Nat) (x:List C):List C:=match x with
 | [.int _ k,.int _ a,_,.int _ d]=>if b=0 then S else if b=1 then D else if b=2 then Hd else if d=1 then I else pack (Ul sz ino k a)
 | _=>[]
def Bn (S D Hd I:List C) (sz ino:Nat) (L:List (List C)) (i:Nat):List (List C):=(List.range L.length).map fun t=>if t<i then Zog S D Hd I sz ino t (L[t]?.getD []) else Vt
theorem Z0c (S D Hd I:List C) (sz ino:Nat) (L:List (List C)) (i:Nat):(Bn S D Hd I sz ino L i).length=L.length:=by simp [Bn]
theorem Z0b (S D Hd I:List C) (sz ino:Nat) (L:List (List C)) (i:Nat) (hi:i<L.length):(Bn S D Hd I sz ino L i)[i]? = some Vt:=by simp [Bn,hi]
theorem Qv (S D Hd I:List C) (sz ino:Nat) (L:List (List C)) (i:Nat) (x y:List C) (hx:L[i]? = some x) (hy:y=Zog S D Hd I sz ino i x):(Bn S D Hd I sz ino L i).set i y=Bn S D Hd I sz ino L (i+1):=by
 subst hy
 refine List.ext_getElem (by simp [Bn]) fun t h1 h2=>?_
 simp only[List.getElem_set]
 simp only[Bn,List.getElem_map,List.getElem_range]
 by_cases e:i=t
 ·subst e
  simp [hx]
 ·rw[if_neg e]
  by_cases h3:t<i
  ·rw[if_pos h3,if_pos oM]
  ·rw[if_neg h3,if_neg oM]
theorem Uv:K.types.get 115=some ti115:=kR
theorem O5:ti115.desc=.slice 66:=rfl
theorem Z3g:Y7 K 172=some ti4:=kR
theorem Z4d (h:Hq) (f:Nat->Bool):Un h (some ti4) (some 2048) (some 2048)=some (.w (.c (.slice h.next 0 2048 1)),h.new (.row 1 (Uc (upto f 0)) false)):=by
 have e:List.replicate 2048 ti4.zero.cells=Uc (upto f 0):=by
  refine List.ext_getElem (by rw[List.length_replicate]; simp [Uc]) fun t h1 h2=>?_
  rw[List.getElem_replicate]
  simp only[Uc,List.getElem_map,upto]
  rfl
 show some (V.w (.c (.slice h.next 0 2048 1)),h.new (.row 1 (List.replicate 2048 ti4.zero.cells) false))=_
 rw[e]
theorem Zcf (a b c d:C):Yg K 179 (some [(0,.g [a,b,c,d])])=some (.g [a,b,c,d,.int .u32 0]):=kR
def Zzh:List C:=match Yg K 183 (some [(0,.c (.int .u32 1))]) with
 | some (.g l)=>l
 | _=>[]
theorem Zfr:Yg K 183 (some [(0,.c (.int .u32 1))])=some (.g Zzh):=kR
def Z3y:List C:=match Yg K 37 (some [(0,.c (.int .u8 2)),(1,.c (.int .i64 1)),(2,.c (.int .u32 1))]) with
 | some (.g l)=>l
 | _=>[]
theorem Zlt:Yg K 37 (some [(0,.c (.int .u8 2)),(1,.c (.int .i64 1)),(2,.c (.int .u32 1))])=some (.g Z3y):=kR
structure Special (P:Program) (gr sz ino jr:Nat) (L DL:List (List C)) (S D Hd I:List C):Prop where
 s:∀ h:Hq,Zy K P 95 [.g [.int .i64 gr,.int .i64 sz,.int .i64 ino,.int .i64 jr,.int .u32 0]] h (.tup [.g S,.c (.int .i64 0)]) h
 d:∀ (h:Hq) (n:Nat),h.get n=some (.row 3 DL false)->Zy K P 96 [.g (Jr gr sz ino jr),.c (.slice n 0 gr 3)] h (.tup [.g D,.c (.int .i64 0)]) h
 hd:∀ h:Hq,Zy K P 97 [.g Zzh] h (.tup [.g Hd,.c (.int .i64 0)]) h
 i:∀ (h:Hq) (b:Nat) (kd a c:Int),L[b]? = some (thing kd a c 1)->Zy K P 98 [.g (pack (Ul sz ino kd a)),.c (.int .i64 0),.g Z3y] h (.tup [.g I,.c (.int .i64 0)]) h
 ls:S.length=256
 ld:D.length=256
 lh:Hd.length=256
 li:I.length=256
section
variable (Hh:Hearts K Tryz.prog)
include Hh
theorem mk2 {gr sz ino jr:Nat} (F:Fine gr sz ino jr) (p nA nO nD:Nat) (h1O:nO≠p) (h2O:nO≠nA) (h3O:nO≠nD) (L DL:List (List C)) (S D Hd I:List C) (Sp:Special Tryz.prog gr sz ino jr L DL S D Hd I) (hT:Zqx L) (hlen:L.length<=4000):∀ (k b:Nat) (ts:Zw) (h:Hq),b+k=L.length->h.get p=some (.row 4 [Jr gr sz ino jr] false)->h.get nA=some (.row 4 L false)->h.get nD=some (.row 3 DL false)->h.get nO=some (.row 256 (Bn S D Hd I sz ino L b) false) ->
  Ze ts 1=.w (.c (.ptr p 0))->Ze ts 4=.w (.c (.slice nA 0 L.length 4))->Ze ts 5=.w (.c (.slice nO 0 L.length 256))->Ze ts 6=.w (.c (.slice nD 0 gr 3))->Ze ts 8=.w (.c (.int .i64 b))->(p<h.next/\nA<h.next/\nO<h.next/\nD<h.next) ->
  Z7 159 none (q46 [1,1,1,1,1,1,1,1,0,1,2]) [] ts h fun x ds' ts' h'=>x=.exit 2/\ds'=[]/\h.next<=h'.next/\h'.get nO=some (.row 256 (Bn S D Hd I sz ino L L.length) false)/\(∀ m,m≠nO->m<h.next->h'.get m=h.get m)/\Ze ts' 5=.w (.c (.slice nO 0 L.length 256)):=by
 intro k
 induction k with
 | zero =>
  intro b ts h hb hp hA hD hO h1 h4 h5 h6 h8 hlt
  have eb:b=L.length:=oM
  subst eb
  have c1:decide ((L.length:Int)<(L.length:Int))=false:=decide_eq_false oM
  iterate 6 (first|((first|apply Goes.Zl|apply Goes.ops2 fits Hh Za); · simp (decide:=true) only [go_sem,Zv,H.get_put,H.Zg,Zh,Z9,reduceIte,Nat.reduceAdd,Nat.reduceMul,Zz,Yb,asC,Zo,Yr,Yj,h4,h8,c1,Zt,J5,N7]<;>rfl)|apply gS)
  refine⟨rfl,rfl,Nat.le_refl _,hO,fun _ _ _=>rfl,?_⟩
  simp (decide:=true) only [Zo,reduceIte,h5]
 | succ k ih =>
  intro b ts h hb hp hA hD hO h1 h4 h5 h6 h8 hlt
  have hbl:b<L.length:=oM
  obtain⟨kd,a,c,d,hx⟩:=hT L[b] (List.getElem_mem hbl)
  have hx':L[b]? = some (thing kd a c d):=by rw[List.getElem?_eq_getElem hbl,hx]
  have c1:decide ((b:Int)<(L.length:Int))=true:=decide_eq_true oM
  have n2048:U9 (some (.int .i64 2048))=some 2048:=rfl
  have ms:=Z4d h (Ul sz ino kd a)
  iterate 13 (first|((first|apply Goes.Zl|apply Goes.ops2 fits Hh Za); · simp (decide:=true) only [go_sem,Zv,H.get_put,H.Zg,Zh,Z9,reduceIte,Nat.reduceAdd,Nat.reduceMul,Zz,Yb,asC,Zo,Yr,Yj,h4,h8,c1,ms,n2048,Zt,J5,N7,Z3g]<;>rfl)|apply gS)
  show Z7 159 none (q46 [1,1,1,1,1,1,1,1,0,1,2,2,1,0,2,1,0,1]) _ _ _ _
  rw[Xk]
  refine Jc ((mk4 Hh F p nA h.next b oM oM L false kd a c d hx' hlen 2048 0 _ _ rfl ?_ ?_ ?_ ?_ ?_ ?_ ?_ ?_ ?_).mono ?_)
  ·rw[H.Zg,if_neg oM]; exact hp
  ·rw[H.Zg,if_neg oM]; exact hA
  ·rw[H.Zg,if_pos rfl]
  ·exact tZ h1
  ·exact tZ h4
  ·exact tZ h8
  ·exact tY
  ·simp (decide:=true) only [Zo,reduceIte]
   rfl
  ·rw[H.Zc]; omega
  rintro x ds' ts2 h2 ⟨rfl,rfl,hn2,hb2,hk2,low⟩
  rw[H.Zc] at hn2
  have k1:Ze ts2 1=.w (.c (.ptr p 0)):=by rw[low 1 dM]; simp (decide:=true) only [Zo,reduceIte,h1]
  have k4:Ze ts2 4=.w (.c (.slice nA 0 L.length 4)):=by rw[low 4 dM]; simp (decide:=true) only [Zo,reduceIte,h4]
  have k5:Ze ts2 5=.w (.c (.slice nO 0 L.length 256)):=by rw[low 5 dM]; simp (decide:=true) only [Zo,reduceIte,h5]
  have k6:Ze ts2 6=.w (.c (.slice nD 0 gr 3)):=by rw[low 6 dM]; simp (decide:=true) only [Zo,reduceIte,h6]
  have k8:Ze ts2 8=.w (.c (.int .i64 b)):=by rw[low 8 dM]; simp (decide:=true) only [Zo,reduceIte,h8]
  have k9:Ze ts2 9=.w (.c (.slice h.next 0 2048 1)):=by rw[low 9 dM]; simp (decide:=true) only [Zo,reduceIte]
  have hp2:h2.get p=some (.row 4 [[.int .i64 gr,.int .i64 sz,.int .i64 ino,.int .i64 jr]] false):=by rw[hk2 _ oM,H.Zg,if_neg oM]; exact hp
  have hA2:h2.get nA=some (.row 4 L false):=by rw[hk2 _ oM,H.Zg,if_neg oM]; exact hA
  have hD2:h2.get nD=some (.row 3 DL false):=by rw[hk2 _ oM,H.Zg,if_neg oM]; exact hD
  have hO2:h2.get nO=some (.row 256 (Bn S D Hd I sz ino L b) false):=by rw[hk2 _ oM,H.Zg,if_neg oM]; exact hO
  have b1:Nat.blt b L.length=true:=Gb hbl
  have lp:(pack (Ul sz ino kd a)).length=256:=by simp [pack]
  have wr1:Z5 256 (Bn S D Hd I sz ino L b) (b * 256) (pack (Ul sz ino kd a))=some ((Bn S D Hd I sz ino L b).set b (pack (Ul sz ino kd a))):=Mw lp oM (Z0b _ _ _ _ _ _ _ _ hbl) (by simp [Vt])
  have hE:((Bn S D Hd I sz ino L b).set b (pack (Ul sz ino kd a)))[b]? = some (pack (Ul sz ino kd a)):=by
   rw[List.getElem?_set_self (by rw[Z0c]; exact hbl)]
  have w1:Jb .i64 ((b:Int)+1)=.int .i64 ((b+1:Nat):Int):=by rw[wrap64 oM oM]; congr 1
  have hn1:p≠nO:=Ne.symm h1O
  have hn2':nA≠nO:=Ne.symm h2O
  have hn3:nD≠nO:=Ne.symm h3O
  by_cases b0:b=0
  ·have z0:((b:Int) == 0)=true:=by rw[b0]; rfl
   have z1:=z0
   have z2:=z0
   have setb:=Qv S D Hd I sz ino L b _ S hx' (by rw[b0]; rfl)
   have wr2:Z5 256 ((Bn S D Hd I sz ino L b).set b (pack (Ul sz ino kd a))) (b * 256) S=some (((Bn S D Hd I sz ino L b).set b (pack (Ul sz ino kd a))).set b S):=Mw Sp.ls oM hE lp
   have ls:=Sp.ls
   have rg:Zk 4 [[C.int .i64 gr,.int .i64 sz,.int .i64 ino,.int .i64 jr]] 0 4=some [.int .i64 gr,.int .i64 sz,.int .i64 ino,.int .i64 jr]:=rfl
   apply Zu
   (apply Goes.ops2 fits Hh (Zp Za (Zch Hh (Ul sz ino kd a) h.next false h2 hb2)); · simp (decide:=true) only [go_sem,Zv,H.get_put,H.Zg,Zh,Z9,reduceIte,Nat.reduceAdd,Nat.reduceMul,Z4,k1,k4,k5,k6,k8,k9,hp2,hA2,hD2,hO2,b1,wr1,lp,w1,z0,z1,z2,wr2,ls,rg,hn1,hn2',Ja,Ud,Ue,Ot,O6,Uv,O5,Us,Ga,Gx,Oj,Es,Ei,Gg,La,Fx,cW,gW,Nat.zero_add,Nat.add_zero,Nat.beq_refl,Zcf]<;>rfl)
   iterate 4 (first|((first|apply Goes.Zl|apply Goes.ops2 fits Hh Za); · simp (decide:=true) only [go_sem,Zv,H.get_put,H.Zg,Zh,Z9,reduceIte,Nat.reduceAdd,Nat.reduceMul,Zz,Yb,asC,Zo,Yr,Yj,k1,k4,k5,k6,k8,k9,hp2,hA2,hD2,hO2,b1,wr1,lp,w1,z0,z1,z2,wr2,ls,rg,hn1,hn2',Ja,Ud,Ue,Ot,O6,Uv,O5,Us,Ga,Gx,Oj,Es,Ei,Gg,La,Fx,cW,gW,Nat.zero_add,Nat.add_zero,Nat.beq_refl,Zcf]<;>rfl)|apply gS)
   (apply Goes.ops2 fits Hh (Zp Za (Sp.s (h2.put nO (.row 256 ((Bn S D Hd I sz ino L b).set b (pack (Ul sz ino kd a))) false)))); · simp (decide:=true) only [go_sem,Zv,H.get_put,H.Zg,Zh,Z9,reduceIte,Nat.reduceAdd,Nat.reduceMul,Z4,k1,k4,k5,k6,k8,k9,hp2,hA2,hD2,hO2,b1,wr1,lp,w1,z0,z1,z2,wr2,ls,rg,hn1,hn2',Ja,Ud,Ue,Ot,O6,Uv,O5,Us,Ga,Gx,Oj,Es,Ei,Gg,La,Fx,cW,gW,Nat.zero_add,Nat.add_zero,Nat.beq_refl,Zcf]<;>rfl)
   (apply Goes.ops2 fits Hh Za; · simp (decide:=true) only [go_sem,Zv,H.get_put,H.Zg,Zh,Z9,reduceIte,Nat.reduceAdd,Nat.reduceMul,k1,k4,k5,k6,k8,k9,hp2,hA2,hD2,hO2,b1,wr1,lp,w1,z0,z1,z2,wr2,ls,rg,hn1,hn2',Ja,Ud,Ue,Ot,O6,Uv,O5,Us,Ga,Gx,Oj,Es,Ei,Gg,La,Fx,cW,gW,Nat.zero_add,Nat.add_zero,Nat.beq_refl,Zcf]<;>rfl)
   show Z7 159 none (.loop (q46 [1,1,1,1,1,1,1,1,0,1,2,2])) _ _ _ _
   rw[<-Bp]
   refine (ih (b+1) _ _ oM ?_ ?_ ?_ ?_ ?_ ?_ ?_ ?_ ?_ ?_).mono ?_
   ·rw[H.get_put,if_neg oM,H.get_put,if_neg oM,hk2 _ oM,H.Zg,if_neg oM]; exact hp
   ·rw[H.get_put,if_neg oM,H.get_put,if_neg oM,hk2 _ oM,H.Zg,if_neg oM]; exact hA
   ·rw[H.get_put,if_neg oM,H.get_put,if_neg oM,hk2 _ oM,H.Zg,if_neg oM]; exact hD
   ·rw[H.get_put,if_pos rfl,List.set_set,setb]
   ·exact tZ k1
   ·exact tZ k4
   ·exact tZ k5
   ·exact tZ k6
   ·exact tY
   ·simp only[H.Zb]; omega
   ·rintro x ds' ts' h' ⟨e1,e2,e3,e4,e5,e6⟩
    simp only[H.Zb] at e3 e5
    refine⟨e1,e2,oM,e4,fun m hm hlt=>?_,?_⟩
    ·rw[e5 m hm oM]
     rw[H.get_put,if_neg oM,H.get_put,if_neg oM,hk2 _ oM,H.Zg,if_neg oM]
    ·exact e6
  by_cases b1':b=1
  ·have z0:((b:Int) == 0)=false:=by rw[b1']; rfl
   have z1:((b:Int) == 1)=true:=by rw[b1']; rfl
   have z2:=z0
   have setb:=Qv S D Hd I sz ino L b _ D hx' (by rw[b1']; rfl)
   have wr2:Z5 256 ((Bn S D Hd I sz ino L b).set b (pack (Ul sz ino kd a))) (b * 256) D=some (((Bn S D Hd I sz ino L b).set b (pack (Ul sz ino kd a))).set b D):=Mw Sp.ld oM hE lp
   have ls:=Sp.ld
   have rg:Zk 4 [[C.int .i64 gr,.int .i64 sz,.int .i64 ino,.int .i64 jr]] 0 4=some [.int .i64 gr,.int .i64 sz,.int .i64 ino,.int .i64 jr]:=rfl
   have dD:Zi 96 [.g [.int .i64 gr,.int .i64 sz,.int .i64 ino,.int .i64 jr],.c (.slice nD 0 gr 3)] (h2.put nO (.row 256 ((Bn S D Hd I sz ino L b).set b (pack (Ul sz ino kd a))) false)) (.tup [.g D,.c (.int .i64 0)]) (h2.put nO (.row 256 ((Bn S D Hd I sz ino L b).set b (pack (Ul sz ino kd a))) false)):=Sp.d _ nD (by rw[H.get_put,if_neg hn3]; exact hD2)
   apply Zu
   (apply Goes.ops2 fits Hh (Zp Za (Zch Hh (Ul sz ino kd a) h.next false h2 hb2)); · simp (decide:=true) only [go_sem,Zv,H.get_put,H.Zg,Zh,Z9,reduceIte,Nat.reduceAdd,Nat.reduceMul,Z4,k1,k4,k5,k6,k8,k9,hp2,hA2,hD2,hO2,b1,wr1,lp,w1,z0,z1,z2,wr2,ls,rg,hn1,hn2',Ja,Ud,Ue,Ot,O6,Uv,O5,Us,Ga,Gx,Oj,Es,Ei,Gg,La,Fx,cW,gW,Nat.zero_add,Nat.add_zero,Nat.beq_refl]<;>rfl)
   iterate 7 (first|((first|apply Goes.Zl|apply Goes.ops2 fits Hh Za); · simp (decide:=true) only [go_sem,Zv,H.get_put,H.Zg,Zh,Z9,reduceIte,Nat.reduceAdd,Nat.reduceMul,Zz,Yb,asC,Zo,Yr,Yj,k1,k4,k5,k6,k8,k9,hp2,hA2,hD2,hO2,b1,wr1,lp,w1,z0,z1,z2,wr2,ls,rg,hn1,hn2',Ja,Ud,Ue,Ot,O6,Uv,O5,Us,Ga,Gx,Oj,Es,Ei,Gg,La,Fx,cW,gW,Nat.zero_add,Nat.add_zero,Nat.beq_refl]<;>rfl)|apply gS)
   (apply Goes.ops2 fits Hh (Zp Za dD); · simp (decide:=true) only [go_sem,Zv,H.get_put,H.Zg,Zh,Z9,reduceIte,Nat.reduceAdd,Nat.reduceMul,Z4,k1,k4,k5,k6,k8,k9,hp2,hA2,hD2,hO2,b1,wr1,lp,w1,z0,z1,z2,wr2,ls,rg,hn1,hn2',Ja,Ud,Ue,Ot,O6,Uv,O5,Us,Ga,Gx,Oj,Es,Ei,Gg,La,Fx,cW,gW,Nat.zero_add,Nat.add_zero,Nat.beq_refl]<;>rfl)
   (apply Goes.ops2 fits Hh Za; · simp (decide:=true) only [go_sem,Zv,H.get_put,H.Zg,Zh,Z9,reduceIte,Nat.reduceAdd,Nat.reduceMul,k1,k4,k5,k6,k8,k9,hp2,hA2,hD2,hO2,b1,wr1,lp,w1,z0,z1,z2,wr2,ls,rg,hn1,hn2',Ja,Ud,Ue,Ot,O6,Uv,O5,Us,Ga,Gx,Oj,Es,Ei,Gg,La,Fx,cW,gW,Nat.zero_add,Nat.add_zero,Nat.beq_refl]<;>rfl)
   show Z7 159 none (.loop (q46 [1,1,1,1,1,1,1,1,0,1,2,2])) _ _ _ _
   rw[<-Bp]
   refine (ih (b+1) _ _ oM ?_ ?_ ?_ ?_ ?_ ?_ ?_ ?_ ?_ ?_).mono ?_
   ·rw[H.get_put,if_neg oM,H.get_put,if_neg oM,hk2 _ oM,H.Zg,if_neg oM]; exact hp
   ·rw[H.get_put,if_neg oM,H.get_put,if_neg oM,hk2 _ oM,H.Zg,if_neg oM]; exact hA
   ·rw[H.get_put,if_neg oM,H.get_put,if_neg oM,hk2 _ oM,H.Zg,if_neg oM]; exact hD
   ·rw[H.get_put,if_pos rfl,List.set_set,setb]
   ·exact tZ k1
   ·exact tZ k4
   ·exact tZ k5
   ·exact tZ k6
   ·exact tY
   ·simp only[H.Zb]; omega
   ·rintro x ds' ts' h' ⟨e1,e2,e3,e4,e5,e6⟩
    simp only[H.Zb] at e3 e5
    refine⟨e1,e2,oM,e4,fun m hm hlt=>?_,?_⟩
    ·rw[e5 m hm oM]
     rw[H.get_put,if_neg oM,H.get_put,if_neg oM,hk2 _ oM,H.Zg,if_neg oM]
    ·exact e6
  have z0:((b:Int) == 0)=false:=by simpa using b0
  have z1:((b:Int) == 1)=false:=by
   have:¬ (b:Int)=1:=oM
   simpa using this
  by_cases b2:b=2
  ·have z2:((b:Int) == 2)=true:=by rw[b2]; rfl
   have setb:=Qv S D Hd I sz ino L b _ Hd hx' (by rw[b2]; rfl)
   have wr2:Z5 256 ((Bn S D Hd I sz ino L b).set b (pack (Ul sz ino kd a))) (b * 256) Hd=some (((Bn S D Hd I sz ino L b).set b (pack (Ul sz ino kd a))).set b Hd):=Mw Sp.lh oM hE lp
   have ls:=Sp.lh
   apply Zu
   (apply Goes.ops2 fits Hh (Zp Za (Zch Hh (Ul sz ino kd a) h.next false h2 hb2)); · simp (decide:=true) only [go_sem,Zv,H.get_put,H.Zg,Zh,Z9,reduceIte,Nat.reduceAdd,Nat.reduceMul,Z4,k1,k4,k5,k6,k8,k9,hp2,hA2,hD2,hO2,b1,wr1,lp,w1,z0,z1,z2,wr2,ls,hn1,hn2',Ja,Ud,Ue,Ot,O6,Uv,O5,Us,Ga,Gx,Oj,Es,Ei,Gg,La,Fx,cW,gW,Nat.zero_add,Nat.add_zero,Nat.beq_refl,Zfr]<;>rfl)
   iterate 10 (first|((first|apply Goes.Zl|apply Goes.ops2 fits Hh Za); · simp (decide:=true) only [go_sem,Zv,H.get_put,H.Zg,Zh,Z9,reduceIte,Nat.reduceAdd,Nat.reduceMul,Zz,Yb,asC,Zo,Yr,Yj,k1,k4,k5,k6,k8,k9,hp2,hA2,hD2,hO2,b1,wr1,lp,w1,z0,z1,z2,wr2,ls,hn1,hn2',Ja,Ud,Ue,Ot,O6,Uv,O5,Us,Ga,Gx,Oj,Es,Ei,Gg,La,Fx,cW,gW,Nat.zero_add,Nat.add_zero,Nat.beq_refl,Zfr]<;>rfl)|apply gS)
   (apply Goes.ops2 fits Hh (Zp Za (Sp.hd (h2.put nO (.row 256 ((Bn S D Hd I sz ino L b).set b (pack (Ul sz ino kd a))) false)))); · simp (decide:=true) only [go_sem,Zv,H.get_put,H.Zg,Zh,Z9,reduceIte,Nat.reduceAdd,Nat.reduceMul,Z4,k1,k4,k5,k6,k8,k9,hp2,hA2,hD2,hO2,b1,wr1,lp,w1,z0,z1,z2,wr2,ls,hn1,hn2',Ja,Ud,Ue,Ot,O6,Uv,O5,Us,Ga,Gx,Oj,Es,Ei,Gg,La,Fx,cW,gW,Nat.zero_add,Nat.add_zero,Nat.beq_refl,Zfr]<;>rfl)
   (apply Goes.ops2 fits Hh Za; · simp (decide:=true) only [go_sem,Zv,H.get_put,H.Zg,Zh,Z9,reduceIte,Nat.reduceAdd,Nat.reduceMul,k1,k4,k5,k6,k8,k9,hp2,hA2,hD2,hO2,b1,wr1,lp,w1,z0,z1,z2,wr2,ls,hn1,hn2',Ja,Ud,Ue,Ot,O6,Uv,O5,Us,Ga,Gx,Oj,Es,Ei,Gg,La,Fx,cW,gW,Nat.zero_add,Nat.add_zero,Nat.beq_refl,Zfr]<;>rfl)
   show Z7 159 none (.loop (q46 [1,1,1,1,1,1,1,1,0,1,2,2])) _ _ _ _
   rw[<-Bp]
   refine (ih (b+1) _ _ oM ?_ ?_ ?_ ?_ ?_ ?_ ?_ ?_ ?_ ?_).mono ?_
   ·rw[H.get_put,if_neg oM,H.get_put,if_neg oM,hk2 _ oM,H.Zg,if_neg oM]; exact hp
   ·rw[H.get_put,if_neg oM,H.get_put,if_neg oM,hk2 _ oM,H.Zg,if_neg oM]; exact hA
   ·rw[H.get_put,if_neg oM,H.get_put,if_neg oM,hk2 _ oM,H.Zg,if_neg oM]; exact hD
   ·rw[H.get_put,if_pos rfl,List.set_set,setb]
   ·exact tZ k1
   ·exact tZ k4
   ·exact tZ k5
   ·exact tZ k6
   ·exact tY
   ·simp only[H.Zb]; omega
   ·rintro x ds' ts' h' ⟨e1,e2,e3,e4,e5,e6⟩
    simp only[H.Zb] at e3 e5
    refine⟨e1,e2,oM,e4,fun m hm hlt=>?_,?_⟩
    ·rw[e5 m hm oM]
     rw[H.get_put,if_neg oM,H.get_put,if_neg oM,hk2 _ oM,H.Zg,if_neg oM]
    ·exact e6
  have z2:((b:Int) == 2)=false:=by
   have:¬ (b:Int)=2:=oM
   simpa using this
  have r3:read1 4 L (b * 4+3)=some (.int .i64 d):=Mr (sz:=4) (j:=3) oM hx'
  by_cases d1:d=1
  ·have e1:(d == 1)=true:=by rw[d1]; rfl
   have setb:=Qv S D Hd I sz ino L b _ I hx' (by simp only[thing,Zog]; rw[if_neg b0,if_neg b1',if_neg b2,if_pos d1])
   have wr2:Z5 256 ((Bn S D Hd I sz ino L b).set b (pack (Ul sz ino kd a))) (b * 256) I=some (((Bn S D Hd I sz ino L b).set b (pack (Ul sz ino kd a))).set b I):=Mw Sp.li oM hE lp
   have ls:=Sp.li
   have rb:Zk 256 ((Bn S D Hd I sz ino L b).set b (pack (Ul sz ino kd a))) (b * 256) 256=some (pack (Ul sz ino kd a)):=Zic oM hE lp
   apply Zu
   (apply Goes.ops2 fits Hh (Zp Za (Zch Hh (Ul sz ino kd a) h.next false h2 hb2)); · simp (decide:=true) only [go_sem,Zv,H.get_put,H.Zg,Zh,Z9,reduceIte,Nat.reduceAdd,Nat.reduceMul,Z4,k1,k4,k5,k6,k8,k9,hp2,hA2,hD2,hO2,b1,wr1,lp,w1,z0,z1,z2,wr2,ls,r3,e1,rb,hn1,hn2',Ja,Ud,Ue,Ot,O6,Uv,O5,Us,Ga,Gx,Oj,Es,Ei,Gg,La,Fx,cW,gW,Nat.zero_add,Nat.add_zero,Nat.beq_refl,Zlt]<;>rfl)
   iterate 13 (first|((first|apply Goes.Zl|apply Goes.ops2 fits Hh Za); · simp (decide:=true) only [go_sem,Zv,H.get_put,H.Zg,Zh,Z9,reduceIte,Nat.reduceAdd,Nat.reduceMul,Zz,Yb,asC,Zo,Yr,Yj,k1,k4,k5,k6,k8,k9,hp2,hA2,hD2,hO2,b1,wr1,lp,w1,z0,z1,z2,wr2,ls,r3,e1,rb,hn1,hn2',Ja,Ud,Ue,Ot,O6,Uv,O5,Us,Ga,Gx,Oj,Es,Ei,Gg,La,Fx,cW,gW,Nat.zero_add,Nat.add_zero,Nat.beq_refl,Zlt]<;>rfl)|apply gS)
   (apply Goes.ops2 fits Hh (Zp Za (Sp.i (h2.put nO (.row 256 ((Bn S D Hd I sz ino L b).set b (pack (Ul sz ino kd a))) false)) b kd a c (d1 ▸ hx'))); · simp (decide:=true) only [go_sem,Zv,H.get_put,H.Zg,Zh,Z9,reduceIte,Nat.reduceAdd,Nat.reduceMul,Z4,k1,k4,k5,k6,k8,k9,hp2,hA2,hD2,hO2,b1,wr1,lp,w1,z0,z1,z2,wr2,ls,r3,e1,rb,hn1,hn2',Ja,Ud,Ue,Ot,O6,Uv,O5,Us,Ga,Gx,Oj,Es,Ei,Gg,La,Fx,cW,gW,Nat.zero_add,Nat.add_zero,Nat.beq_refl,Zlt]<;>rfl)
   (apply Goes.ops2 fits Hh Za; · simp (decide:=true) only [go_sem,Zv,H.get_put,H.Zg,Zh,Z9,reduceIte,Nat.reduceAdd,Nat.reduceMul,k1,k4,k5,k6,k8,k9,hp2,hA2,hD2,hO2,b1,wr1,lp,w1,z0,z1,z2,wr2,ls,r3,e1,rb,hn1,hn2',Ja,Ud,Ue,Ot,O6,Uv,O5,Us,Ga,Gx,Oj,Es,Ei,Gg,La,Fx,cW,gW,Nat.zero_add,Nat.add_zero,Nat.beq_refl,Zlt]<;>rfl)
   show Z7 159 none (.loop (q46 [1,1,1,1,1,1,1,1,0,1,2,2])) _ _ _ _
   rw[<-Bp]
   refine (ih (b+1) _ _ oM ?_ ?_ ?_ ?_ ?_ ?_ ?_ ?_ ?_ ?_).mono ?_
   ·rw[H.get_put,if_neg oM,H.get_put,if_neg oM,hk2 _ oM,H.Zg,if_neg oM]; exact hp
   ·rw[H.get_put,if_neg oM,H.get_put,if_neg oM,hk2 _ oM,H.Zg,if_neg oM]; exact hA
   ·rw[H.get_put,if_neg oM,H.get_put,if_neg oM,hk2 _ oM,H.Zg,if_neg oM]; exact hD
   ·rw[H.get_put,if_pos rfl,List.set_set,setb]
   ·exact tZ k1
   ·exact tZ k4
   ·exact tZ k5
   ·exact tZ k6
   ·exact tY
   ·simp only[H.Zb]; omega
   ·rintro x ds' ts' h' ⟨e1,e2,e3,e4,e5,e6⟩
    simp only[H.Zb] at e3 e5
    refine⟨e1,e2,oM,e4,fun m hm hlt=>?_,?_⟩
    ·rw[e5 m hm oM]
     rw[H.get_put,if_neg oM,H.get_put,if_neg oM,hk2 _ oM,H.Zg,if_neg oM]
    ·exact e6
  ·have e1:(d == 1)=false:=by simpa using d1
   have setb:=Qv S D Hd I sz ino L b _ (pack (Ul sz ino kd a)) hx' (by simp only[thing,Zog]; rw[if_neg b0,if_neg b1',if_neg b2,if_neg d1])
   apply Zu
   (apply Goes.ops2 fits Hh (Zp Za (Zch Hh (Ul sz ino kd a) h.next false h2 hb2)); · simp (decide:=true) only [go_sem,Zv,H.get_put,H.Zg,Zh,Z9,reduceIte,Nat.reduceAdd,Nat.reduceMul,Z4,k1,k4,k5,k6,k8,k9,hp2,hA2,hD2,hO2,b1,wr1,lp,w1,z0,z1,z2,r3,e1,hn1,hn2',Ja,Ud,Ue,Ot,O6,Uv,O5,Us,Ga,Gx,Oj,Es,Ei,Gg,La,Fx,cW,gW,Nat.zero_add,Nat.add_zero,Nat.beq_refl]<;>rfl)
   iterate 15 (first|((first|apply Goes.Zl|apply Goes.ops2 fits Hh Za); · simp (decide:=true) only [go_sem,Zv,H.get_put,H.Zg,Zh,Z9,reduceIte,Nat.reduceAdd,Nat.reduceMul,Zz,Yb,asC,Zo,Yr,Yj,k1,k4,k5,k6,k8,k9,hp2,hA2,hD2,hO2,b1,wr1,lp,w1,z0,z1,z2,r3,e1,hn1,hn2',Ja,Ud,Ue,Ot,O6,Uv,O5,Us,Ga,Gx,Oj,Es,Ei,Gg,La,Fx,cW,gW,Nat.zero_add,Nat.add_zero,Nat.beq_refl]<;>rfl)|apply gS)
   show Z7 159 none (.loop (q46 [1,1,1,1,1,1,1,1,0,1,2,2])) _ _ _ _
   rw[<-Bp]
   refine (ih (b+1) _ _ oM ?_ ?_ ?_ ?_ ?_ ?_ ?_ ?_ ?_ ?_).mono ?_
   ·rw[H.get_put,if_neg oM,hk2 _ oM,H.Zg,if_neg oM]; exact hp
   ·rw[H.get_put,if_neg oM,hk2 _ oM,H.Zg,if_neg oM]; exact hA
   ·rw[H.get_put,if_neg oM,hk2 _ oM,H.Zg,if_neg oM]; exact hD
   ·rw[H.get_put,if_pos rfl,setb]
   ·exact tZ k1
   ·exact tZ k4
   ·exact tZ k5
   ·exact tZ k6
   ·exact tY
   ·simp only[H.Zb]; omega
   ·rintro x ds' ts' h' ⟨e1,e2,e3,e4,e5,e6⟩
    simp only[H.Zb] at e3 e5
    refine⟨e1,e2,oM,e4,fun m hm hlt=>?_,?_⟩
    ·rw[e5 m hm oM]
     rw[H.get_put,if_neg oM,hk2 _ oM,H.Zg,if_neg oM]
    ·exact e6
end
theorem Zai:Y7 K 57=some ti61:=kR
theorem Zu4:K.types.get 57=some ti57:=kR
theorem Z6q:ti57.desc=.slice 61:=rfl
theorem Z8a:K.types.get 61=some ti61:=kR
theorem Z0t:ti61.size=3:=rfl
theorem Z5k:ti61.bytes=24:=rfl
theorem Z6x:Zm K 61 1=some (1,ti3):=kR
theorem Z6y:Zm K 61 2=some (2,ti3):=kR
theorem Zav (n off len sz:Nat):Jp K 57 (.slice n off len sz)=true:=by unfold Jp; rw[Zu4]; rfl
theorem Zad (a b:Int):Yg K 61 (some [(0,.c (.int .i64 a)),(1,.c (.int .i64 b))])=some (.g [.int .i64 a,.int .i64 b,.int .i64 0]):=kR
theorem Zd4 (h:Hq) (a b c:C):Jn h 1 (some ti61) (some [(0,.g [a,b,c])])=some (.w (.c (.slice h.next 0 1 3)),h.new (.row 3 [[a,b,c]] false)):=rfl
def Zbj (dn ino:Nat):List C:=[.int .i64 dn,.int .i64 ino,.int .i64 0]
theorem Z9k {h:Hq} {n:Nat} {L:List (List C)} (x:List C) (ho:h.get n=some (.row 3 L false)) (hn:n<h.next) (hl:L.length<=4000) :
  Oh (h.new (.row 3 [x] false)) (some ti61) (.slice n 0 L.length 3) (.slice h.next 0 1 3)=some (.w (.c (.slice (h.next+1) 0 (L.length+1) 3)),((h.new (.row 3 [x] false)).del n).new (.row 3 (L++[x]) false)) :=
 Zjv (M:=[x]) Z0t (by rw[H.Zg,if_neg oM]; exact ho) (by rw[H.Zg,if_pos rfl]) (by simp) (by rw[Z5k]; show (L.length+1) * 24<=_; omega) (by show L.length+1<=_; omega)
theorem Z62 {h:Hq} (x:List C) :
  Oh (h.new (.row 3 [x] false)) (some ti61) .snil (.slice h.next 0 1 3)=some (.w (.c (.slice (h.next+1) 0 1 3)),(h.new (.row 3 [x] false)).new (.row 3 [x] false)) :=
 append_nil (M:=[x]) Z0t (by rw[H.Zg,if_pos rfl]) (by simp) (by rw[Z5k]; show 1 * 24<=_; omega) (by show 1<=_; omega)
section
variable (Hh:Hearts K Tryz.prog)
include Hh
theorem mk0 {gr sz ino jr:Nat} (F:Fine gr sz ino jr) (G:RG gr sz ino jr) (p base:Nat) (hpb:p<base):∀ (k i:Nat) (ts:Zw) (h:Hq),i+k=gr->base<=h.next->h.get p=some (.row 4 [Jr gr sz ino jr] false)->Ze ts 1=.w (.c (.ptr p 0))->Ze ts 7=.w (.c (.int .i64 i))->(i=0/\Ze ts 6=.w (.c .snil)\/∃ n,base<=n/\n<h.next/\Ze ts 6=.w (.c (.slice n 0 i 3))/\h.get n=some (.row 3 (List.replicate i (Zbj (Mh (Dg gr sz ino jr)) ino)) false)) ->
  Z7 159 none (q46 [1,1,1,1,1,0,1,2]) [] ts h fun x ds' ts' h'=>x=.exit 0/\ds'=[]/\h.next<=h'.next/\(∀ m,m<base->h'.get m=h.get m)/\Ze ts' 1=Ze ts 1/\Ze ts' 4=Ze ts 4/\Ze ts' 5=Ze ts 5/\∃ n,base<=n/\n<h'.next/\Ze ts' 6=.w (.c (.slice n 0 gr 3))/\h'.get n=some (.row 3 (List.replicate gr (Zbj (Mh (Dg gr sz ino jr)) ino)) false):=by
 have F':=F
 obtain⟨g1,g2,g3,g4,g5,g6,g7,g8,g9,g10,g11⟩:=F
 intro k
 induction k with
 | zero =>
  intro i ts h hi hb hp h1 h7 st
  have ei:i=gr:=oM
  subst ei
  have hp':h.get p=some (.row 4 [[.int .i64 i,.int .i64 sz,.int .i64 ino,.int .i64 jr]] false):=hp
  have c1:decide ((i:Int)<(i:Int))=false:=decide_eq_false oM
  iterate 6 (first|((first|apply Goes.Zl|apply Goes.ops2 fits Hh Za); · simp (decide:=true) only [go_sem,Zv,H.get_put,H.Zg,Zh,Z9,reduceIte,Nat.reduceAdd,Nat.reduceMul,Zz,Yb,asC,Zo,Yr,Yj,h1,h7,hp',c1,Zg8,geo0,Oj,Es,Ei,cW,Nat.zero_add]<;>rfl)|apply gS)
  rcases st with ⟨e,_⟩|⟨n,n1,n2,n3,n4⟩
  ·omega
  refine⟨rfl,rfl,Nat.le_refl _,fun _ _=>rfl,?_,?_,?_,n,n1,n2,?_,n4⟩
  ·exact tY
  ·exact tY
  ·exact tY
  ·exact tZ n3
 | succ k ih =>
  intro i ts h hi hb hp h1 h7 st
  have hp':h.get p=some (.row 4 [[.int .i64 gr,.int .i64 sz,.int .i64 ino,.int .i64 jr]] false):=hp
  have c1:decide ((i:Int)<(gr:Int))=true:=decide_eq_true oM
  have w1:Jb .i64 ((i:Int)+1)=.int .i64 ((i+1:Nat):Int):=by rw[wrap64 oM oM]; congr 1
  have rg:Zk 4 [[C.int .i64 gr,.int .i64 sz,.int .i64 ino,.int .i64 jr]] 0 4=some [.int .i64 gr,.int .i64 sz,.int .i64 ino,.int .i64 jr]:=rfl
  have dk:Zi 93 [.g [.int .i64 gr,.int .i64 sz,.int .i64 ino,.int .i64 jr]] h (.w (.c (.int .i64 (Mh (Dg gr sz ino jr):Nat)))) h:=G.data h
  rcases st with ⟨e,h6⟩|⟨n,n1,n2,n3,n4⟩
  ·subst e
   have ap:=Z62 (h:=h) (Zbj (Mh (Dg gr sz ino jr)) ino)
   simp only[Zbj] at ap
   have q1:p≠h.next:=oM
   have q2:p≠h.next+1:=oM
   iterate 8 (first|((first|apply Goes.Zl|apply Goes.ops2 fits Hh Za); · simp (decide:=true) only [go_sem,Zv,H.get_put,H.Zg,Zh,Z9,reduceIte,Nat.reduceAdd,Nat.reduceMul,Zz,Yb,asC,Zo,Yr,Yj,h1,h6,h7,hp',c1,w1,rg,ap,q1,q2,Zg8,geo0,Ti,geo2,Oj,Es,Ei,Gg,Fx,La,cW,gW,Nat.zero_add,Zai,Zav,Zad,Zd4,Zt]<;>rfl)|apply gS)
   (apply Goes.drawn2 fits Hh (Zp Za dk) kR; · simp (decide:=true) only [go_sem,H.get_put,H.Zg,Zh,Z9,reduceIte,Nat.reduceAdd,Nat.reduceMul,drG,Z4,h1,h6,h7,hp',c1,w1,rg,ap,q1,q2,Zg8,geo0,Ti,geo2,Oj,Es,Ei,Gg,Fx,La,cW,gW,Nat.zero_add,Zai,Zav,Zad,Zd4,Zt]<;>rfl)
   (apply Goes.ops2 fits Hh Za; · simp (decide:=true) only [go_sem,Zv,H.get_put,H.Zg,Zh,Z9,reduceIte,Nat.reduceAdd,Nat.reduceMul,h1,h6,h7,hp',c1,w1,rg,ap,q1,q2,Zg8,geo0,Ti,geo2,Oj,Es,Ei,Gg,Fx,La,cW,gW,Nat.zero_add,Zai,Zav,Zad,Zd4,Zt]<;>rfl)
   show Z7 159 none (.loop (q46 [1,1,1,1,1,0,1,2,2])) _ _ _ _
   rw[<-Zdc]
   refine (ih 1 _ _ oM ?_ ?_ ?_ ?_ (.inr ⟨h.next+1,oM,?_,?_,?_⟩)).mono ?_
   ·simp only[H.Zc,H.Yp]; omega
   ·rw[H.Zg,H.Zc,if_neg oM,H.Zg,if_neg oM]; exact hp
   ·exact tZ h1
   ·exact tX
   ·simp only[H.Zc,H.Yp]; omega
   ·exact tX
   ·rw[H.Zg,H.Zc,if_pos rfl]; rfl
   ·rintro x ds' ts' h' ⟨e1,e2,e3,e4,e5,e6,e7,e8⟩
    simp only[H.Zc,H.Yp] at e3
    refine⟨e1,e2,oM,fun m hm=>?_,?_,?_,?_,e8⟩
    ·rw[e4 m hm]
     rw[H.Zg,H.Zc,if_neg oM,H.Zg,if_neg oM]
    ·rw[e5]; simp (decide:=true) only [Zo,reduceIte]
    ·rw[e6]; simp (decide:=true) only [Zo,reduceIte]
    ·rw[e7]; simp (decide:=true) only [Zo,reduceIte]
  ·have ap:=Z9k (Zbj (Mh (Dg gr sz ino jr)) ino) n4 n2 (by rw[List.length_replicate]; omega)
   simp only[Zbj,List.length_replicate] at ap
   have q1:p≠h.next:=oM
   have q2:p≠h.next+1:=oM
   have q3:p≠n:=oM
   iterate 8 (first|((first|apply Goes.Zl|apply Goes.ops2 fits Hh Za); · simp (decide:=true) only [go_sem,Zv,H.get_put,H.Zg,Zh,Z9,reduceIte,Nat.reduceAdd,Nat.reduceMul,Zz,Yb,asC,Zo,Yr,Yj,h1,n3,h7,hp',c1,w1,rg,ap,q1,q2,q3,Zg8,geo0,Ti,geo2,Oj,Es,Ei,Gg,Fx,La,cW,gW,Nat.zero_add,Zai,Zav,Zad,Zd4,Zt,H.Dx,H.Yp]<;>rfl)|apply gS)
   (apply Goes.drawn2 fits Hh (Zp Za dk) kR; · simp (decide:=true) only [go_sem,H.get_put,H.Zg,Zh,Z9,reduceIte,Nat.reduceAdd,Nat.reduceMul,drG,Z4,h1,n3,h7,hp',c1,w1,rg,ap,q1,q2,q3,Zg8,geo0,Ti,geo2,Oj,Es,Ei,Gg,Fx,La,cW,gW,Nat.zero_add,Zai,Zav,Zad,Zd4,Zt,H.Dx,H.Yp]<;>rfl)
   (apply Goes.ops2 fits Hh Za; · simp (decide:=true) only [go_sem,Zv,H.get_put,H.Zg,Zh,Z9,reduceIte,Nat.reduceAdd,Nat.reduceMul,h1,n3,h7,hp',c1,w1,rg,ap,q1,q2,q3,Zg8,geo0,Ti,geo2,Oj,Es,Ei,Gg,Fx,La,cW,gW,Nat.zero_add,Zai,Zav,Zad,Zd4,Zt,H.Dx,H.Yp]<;>rfl)
   show Z7 159 none (.loop (q46 [1,1,1,1,1,0,1,2,2])) _ _ _ _
   rw[<-Zdc]
   refine (ih (i+1) _ _ oM ?_ ?_ ?_ ?_ (.inr ⟨h.next+1,oM,?_,?_,?_⟩)).mono ?_
   ·simp only[H.Zc,H.Yp]; omega
   ·rw[H.Zg,H.Yp,H.Zc,if_neg oM,H.Dx,if_neg oM,H.Zg,if_neg oM]; exact hp
   ·exact tZ h1
   ·exact tX
   ·simp only[H.Zc,H.Yp]; omega
   ·exact tX
   ·rw[H.Zg,H.Yp,H.Zc,if_pos rfl,List.replicate_succ']; rfl
   ·rintro x ds' ts' h' ⟨e1,e2,e3,e4,e5,e6,e7,e8⟩
    simp only[H.Zc,H.Yp] at e3
    refine⟨e1,e2,oM,fun m hm=>?_,?_,?_,?_,e8⟩
    ·rw[e4 m hm]
     rw[H.Zg,H.Yp,H.Zc,if_neg oM,H.Dx,if_neg oM,H.Zg,if_neg oM]
    ·rw[e5]; simp (decide:=true) only [Zo,reduceIte]
    ·rw[e6]; simp (decide:=true) only [Zo,reduceIte]
    ·rw[e7]; simp (decide:=true) only [Zo,reduceIte]
omit Hh in
theorem Qc:Y7 K 115=some ti66:=kR
omit Hh in
theorem Z58:ti66.bytes=256:=rfl
omit Hh in
theorem Z8m:ti66.zero.cells=Vt:=rfl
omit Hh in
theorem Zzx (h:Hq) (S D Hd I:List C) (sz ino:Nat) (L:List (List C)) (hL:L.length<=4000):Un h (some ti66) (some L.length) (some L.length)=some (.w (.c (.slice h.next 0 L.length 256)),h.new (.row 256 (Bn S D Hd I sz ino L 0) false)):=by
 have e:List.replicate L.length Vt=Bn S D Hd I sz ino L 0:=by
  refine List.ext_getElem (by simp [Bn]) fun t h1 h2=>?_
  simp [Bn]
 have b1:Nat.ble L.length L.length=true:=Em (Nat.le_refl _)
 have b2:Nat.ble (L.length * 256) 1099511627776=true:=Em oM
 have b3:Nat.ble L.length 1099511627776=true:=Em oM
 simp only[Un,Z58,b1,b2,b3,Bool.and_self,cond_true,Uh,Z8m,Ga,e]
def Zgx (dn ino gr:Nat):List (List C):=[.int .i64 dn,.int .i64 ((ino - 1:Nat):Int),.int .i64 1] :: List.replicate (gr - 1) (Zbj dn ino)
theorem Z7j {gr sz ino jr:Nat} (F:Fine gr sz ino jr) (G:RG gr sz ino jr) (S D Hd I:List C) (Sp:Special Tryz.prog gr sz ino jr (Dg gr sz ino jr) (Zgx (Mh (Dg gr sz ino jr)) ino gr) S D Hd I) (hfl:(Bn S D Hd I sz ino (Dg gr sz ino jr) (Dg gr sz ino jr).length).all (fun l=>l.all C.flat)=true) (h:Hq) :
  Zi 46 [.g (Jr gr sz ino jr)] h (.tup [.c (.slice h.next 0 (Dg gr sz ino jr).length 256),.c (.int .i64 0)]) (h.new (.row 256 (Bn S D Hd I sz ino (Dg gr sz ino jr) (Dg gr sz ino jr).length) false)):=by
 refine Zy.tidy ⟨_,Tryz.func46,kR,of_decide_eq_true kR⟩ fun tidy=>?_
 suffices hs:Z7 159 none (q46 []) [] (U2 0 [.g (Jr gr sz ino jr)] .nil) h fun x ds ts h1=>∃ n,h.next<=n/\n<h1.next/\h1.get n=some (.row 256 (Bn S D Hd I sz ino (Dg gr sz ino jr) (Dg gr sz ino jr).length) false)/\(∀ n,n<h.next->h1.get n=h.get n)/\leave K Tryz.f46 (some (.at x ds ts h1))=some (.val (.tup [.c (.slice n 0 (Dg gr sz ino jr).length 256),.c (.int .i64 0)]) h1) by
  obtain⟨x,ds,ts,h1,g,n,e1,e2,e3,e4,e5⟩:=hs
  exact (Zy.body fits Hh kR kR kR kR rfl g e5).row e1 e3 rfl hfl e2 e4
 have hlen:(Dg gr sz ino jr).length<=4000:=by
  rw[Dg,List.length_append,Z30,Zo0 F.fit]
  have:=F.all
  omega
 obtain⟨L,hL⟩:=xzE (Dg gr sz ino jr)
 have hT:Zqx L:=hL ▸ Ze0 gr sz ino jr
 have e0:Ze (U2 0 [.g (Jr gr sz ino jr)] .nil) 0=.w (.g (Jr gr sz ino jr)):=by rw[Gl]; rfl
 have lg:(Jr gr sz ino jr).length=4:=rfl
 have rg:Zk 4 [Jr gr sz ino jr] 0 4=some (Jr gr sz ino jr):=rfl
 have nslice:Zd2 (.slice none 0 0)=some (.w (.c .snil)):=rfl
 have e1:Tryz.f46.results.toList=[.tmp 2,.tmp 3]:=rfl
 have mk:=G.may (h.new (.row 4 [Jr gr sz ino jr] false))
 have ak:=G.all (h.new (.row 4 [Jr gr sz ino jr] false))
 rw[hL] at ak Sp hlen ⊢
 have ms:=Zzx ((h.new (.row 4 [Jr gr sz ino jr] false)).new (.row 4 L false)) S D Hd I sz ino L hlen
 iterate 4 (first|(apply Goes.ops2 fits Hh Za; · simp (decide:=true) only [go_sem,Zv,H.get_put,H.Zg,Zh,Z9,reduceIte,Nat.reduceAdd,Nat.reduceMul,e0,lg,rg,nslice,ms,Yy,Gg,La,Fx,gW,Zt,J5,N7,Qc]<;>rfl)|apply gS)
 (apply Goes.ops2 fits Hh (Zp Za mk); · simp (decide:=true) only [go_sem,Zv,H.get_put,H.Zg,Zh,Z9,reduceIte,Nat.reduceAdd,Nat.reduceMul,Z4,e0,lg,rg,nslice,ms,Yy,Gg,La,Fx,gW,Zt,J5,N7,Qc]<;>rfl)
 iterate 3 (first|(apply Goes.Zl; · simp (decide:=true) only [go_sem,Zv,H.get_put,H.Zg,Zh,Z9,reduceIte,Nat.reduceAdd,Nat.reduceMul,Zz,Yb,asC,Zo,Yr,Yj,e0,lg,rg,nslice,ms,Yy,Gg,La,Fx,gW,Zt,J5,N7,Qc]<;>rfl)|apply gS)
 (apply Goes.ops2 fits Hh (Zp Za ak); · simp (decide:=true) only [go_sem,Zv,H.get_put,H.Zg,Zh,Z9,reduceIte,Nat.reduceAdd,Nat.reduceMul,Z4,e0,lg,rg,nslice,ms,Yy,Gg,La,Fx,gW,Zt,J5,N7,Qc]<;>rfl)
 iterate 8 (first|(apply Goes.ops2 fits Hh Za; · simp (decide:=true) only [go_sem,Zv,H.get_put,H.Zg,Zh,Z9,reduceIte,Nat.reduceAdd,Nat.reduceMul,e0,lg,rg,nslice,ms,Yy,Gg,La,Fx,gW,Zt,J5,N7,Qc]<;>rfl)|apply gS)
 show Z7 159 none (q46 [1,1,1,1,1,0,1,2]) _ _ _ _
 refine (mk0 Hh F G h.next (h.next+3) oM gr 0 _ _ oM ?_ ?_ ?_ ?_ (.inl ⟨rfl,?_⟩)).mono ?_
 ·simp only[H.Zc]; omega
 ·simp only[H.Zg,H.Zc]
  rw[if_neg oM,if_neg oM,if_pos trivial]
 ·exact tY
 ·exact tX
 ·exact tY
 rintro x ds' ts1 h1 ⟨rfl,rfl,up1,kp1,a1,a4,a5,nD,d1,d2,d3,d4⟩
 simp only[H.Zc] at up1
 have f1:Ze ts1 1=.w (.c (.ptr h.next 0)):=by rw[a1]; simp (decide:=true) only [Zo,reduceIte]
 have f4:Ze ts1 4=.w (.c (.slice (h.next+1) 0 L.length 4)):=by rw[a4]; simp (decide:=true) only [Zo,reduceIte,H.Zc]
 have f5:Ze ts1 5=.w (.c (.slice (h.next+2) 0 L.length 256)):=by rw[a5]; simp (decide:=true) only [Zo,reduceIte,H.Zc]
 have hp1:h1.get h.next=some (.row 4 [[.int .i64 gr,.int .i64 sz,.int .i64 ino,.int .i64 jr]] false):=by
  rw[kp1 _ oM]
  simp only[H.Zg,H.Zc]
  rw[if_neg oM,if_neg oM,if_pos trivial]
  rfl
 have hA1:h1.get (h.next+1)=some (.row 4 L false):=by
  rw[kp1 _ oM]
  simp only[H.Zg,H.Zc]
  rw[if_neg oM,if_pos trivial]
 have hO1:h1.get (h.next+2)=some (.row 256 (Bn S D Hd I sz ino L 0) false):=by
  rw[kp1 _ oM]
  simp only[H.Zg,H.Zc]
  rw[if_pos trivial]
 obtain⟨g1,g2,g3,g4,g5,g6,g7,g8,g9,g10,g11⟩:=id F
 rw[hL] at d4
 obtain⟨gr',hgr⟩:∃ gr',gr=gr'+1:=⟨gr - 1,oM⟩
 have w1:Jb .i64 ((ino:Int) - 1)=.int .i64 ((ino - 1:Nat):Int):=by rw[wrap64 oM oM]; congr 1; omega
 have n0:U9 (some (.int .i64 0))=some 0:=rfl
 have b0:Nat.blt 0 gr=true:=Gb oM
 have wr1:Z5 3 (List.replicate gr (Zbj (Mh L) ino)) 1 [.int .i64 ((ino - 1:Nat):Int)]=some ([.int .i64 (Mh L:Nat),.int .i64 ((ino - 1:Nat):Int),.int .i64 0] :: List.replicate (gr - 1) (Zbj (Mh L) ino)):=by
  rw[hgr,List.replicate_succ,Nat.add_sub_cancel]
  rfl
 have wr2:Z5 3 ([.int .i64 (Mh L:Nat),.int .i64 ((ino - 1:Nat):Int),.int .i64 0] :: List.replicate (gr - 1) (Zbj (Mh L) ino)) 2 [.int .i64 1]=some (Zgx (Mh L) ino gr):=rfl
 iterate 8 (first|(apply Goes.ops2 fits Hh Za; · simp (decide:=true) only [go_sem,Zv,H.get_put,H.Zg,Zh,Z9,reduceIte,Nat.reduceAdd,Nat.reduceMul,f1,d3,hp1,d4,w1,n0,b0,wr1,wr2,Ti,geo2,Oj,Es,Ei,cW,Zu4,Z6q,Z8a,Z0t,Z6x,Z6y,Nat.zero_add,Nat.zero_mul,Nat.beq_refl]<;>rfl)|apply gS)
 show Z7 159 none (q46 [1,1,1,1,1,1,1,1,0,1,2]) _ _ _ _
 refine (mk2 Hh F h.next (h.next+1) (h.next+2) nD oM oM oM L (Zgx (Mh L) ino gr) S D Hd I Sp hT hlen L.length 0 _ _ oM ?_ ?_ ?_ ?_ ?_ ?_ ?_ ?_ ?_ ?_).mono ?_
 ·rw[H.get_put,if_neg oM,H.get_put,if_neg oM]; exact hp1
 ·rw[H.get_put,if_neg oM,H.get_put,if_neg oM]; exact hA1
 ·rw[H.get_put,if_pos rfl]
 ·rw[H.get_put,if_neg oM,H.get_put,if_neg oM]; exact hO1
 ·exact tZ f1
 ·exact tZ f4
 ·exact tZ f5
 ·exact tZ d3
 ·exact tX
 ·simp only[H.Zb]; omega
 rintro x ds' ts2 h2 ⟨rfl,rfl,up2,hO2,kp2,k5⟩
 simp only[H.Zb] at up2 kp2
 iterate 3 (first|(apply Goes.ops2 fits Hh Za; · simp (decide:=true) only [go_sem,Zv,H.get_put,H.Zg,Zh,Z9,reduceIte,Nat.reduceAdd,Nat.reduceMul,k5]<;>rfl)|apply gS)
 refine⟨h.next+2,oM,oM,hO2,fun m hm=>?_,?_⟩
 ·rw[kp2 m oM oM,H.get_put,if_neg oM,H.get_put,if_neg oM,kp1 m oM]
  simp only[H.Zg,H.Zc]
  rw[if_neg oM,if_neg oM,if_neg oM]
 ·simp (decide:=true) only [D5,Jt,finish,e1,Jo,evalW,Yb,asW,Zo,reduceIte,O0]
end
end
end Go.Proofs.YteiljiijagmonaaGreatDoor
