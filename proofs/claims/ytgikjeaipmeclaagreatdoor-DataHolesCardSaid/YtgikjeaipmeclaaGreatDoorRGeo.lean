/- quernref04.Block, on the evaluator's level: bits as a block. -/
import Derived.Test.YtgikjeaipmeclaaGreatDoorSli
import Derived.Test.YtgikjeaipmeclaaGreatDoorEvC
import Derived.Test.YtgikjeaipmeclaaGreatDoorWhat3
set_option linter.unusedSimpArgs false
set_option linter.unusedVariables false
set_option linter.unusedSectionVars false
set_option maxRecDepth 100000
namespace Go.Proofs.YtgikjeaipmeclaaGreatDoor
open Go.Ev
def Ju (f:Nat→Bool):List (List C):=(List.range 2048).map fun i=>[.bool (f i)]
def byteOf (f:Nat→Bool) (i:Nat):Nat→Nat
 | 0=>0
 | k+1=>2 * byteOf f i k+(f (8 * i+(7 - k))).toNat
theorem Zlk (f:Nat→Bool) (i:Nat) (h:i<2048):read1 1 (Ju f) i=some (.bool (f i)):=by
 simp [Ju,h,read1,Nat.mod_one]
theorem Zgu (f:Nat→Bool) (i k:Nat):byteOf f i k<2 ^ k:=by
 induction k with
 | zero=>simp [byteOf]
 | succ k ih =>
  have:(f (8 * i+(7 - k))).toNat≤1:=by cases f (8 * i+(7 - k))<;>simp
  rw[byteOf,Nat.pow_succ]
  omega
noncomputable def q49 (p:List Nat):Code:=piece p (Uq Tryz.f49)
theorem Zro:q49 [1,1,0,1,2]=.loop (q49 [1,1,0,1,2,2]):=by kernel_rfl
theorem Zbc:q49 [1,1,0,1,2,2,1,0,2,1,0,1]=.block 2 (q49 [1,1,0,1,2,2,1,0,2,1,0,1,2]):=by kernel_rfl
theorem Mg:q49 [1,1,0,1,2,2,1,0,2,1,0,1,2]=.loop (q49 [1,1,0,1,2,2,1,0,2,1,0,1,2,2]):=by kernel_rfl
section
variable (Hh:Hearts K Tryz.prog)
include Hh
theorem inner (f:Nat→Bool) (nb i:Nat) (hi:i<256) (ro:Bool) (h:Go.Ev.H) (hb:h.get nb=some (.row 1 (Ju f) ro)):∀ (j:Nat) (ts:Zu),j≤8→Zk ts 0=.w (.c (.slice nb 0 2048 1))→Zk ts 4=.w (.c (.int .i64 i))→Zk ts 5=.w (.c (.int .i64 (byteOf f i (8 - j))))→Zk ts 6=.w (.c (.int .i64 ((j:Int) - 1))) →
  Goes K Tryz.prog 31 none (q49 [1,1,0,1,2,2,1,0,2,1,0,1,2]) [] ts h fun x ds' ts' h'=>x=.exit 2∧ds'=[]∧h'=h∧Zk ts' 5=.w (.c (.int .i64 (byteOf f i 8)))∧∀ s,s≤4→Zk ts' s=Zk ts s:=by
 intro j
 induction j with
 | zero =>
  intro ts _ h0 h4 h5 h6
  iterate 6 (first|apply Goes.seq|apply Goes.exit|apply Goes.loop|((first|apply Goes.Zm|apply Goes.ops2 fits Hh Zc); · simp (decide:=true) only [go_sem,Zo,H.get_put,H.Zi,Za,Zw,reduceIte,Nat.reduceAdd,Nat.reduceMul,Zv,Z7,asC,Zd,Yf,Ya,h6]<;>rfl))
  refine⟨rfl,rfl,rfl,?_,fun s hs=>?_⟩
  ·simp (decide:=true) only [Zd,reduceIte,h5]
  ·simp (decide:=true) only [Yo hs]
 | succ j ih =>
  intro ts hj h0 h4 h5 h6
  have e6:((j+1:Nat):Int) - 1=(j:Int):=by omega
  rw[e6] at h6
  have hlt:=Zgu f i (8 - (j+1))
  have hp:2 ^ (8 - (j+1))≤2 ^ 8:=Nat.pow_le_pow_right (by omega) (by omega)
  have hstep:byteOf f i (8 - j)=2 * byteOf f i (8 - (j+1))+(f (8 * i+j)).toNat:=by
   have e:8 - j=(8 - (j+1))+1:=by omega
   rw[e,byteOf]
   congr 4
   omega
  obtain⟨x,hx⟩:∃ x,byteOf f i (8 - (j+1))=x:=⟨_,rfl⟩
  rw[hx] at h5 hlt hstep
  have d1:decide ((j:Int) ≥ 0)=true:=decide_eq_true (by omega)
  have w1:Yp .i64 (2 * (x:Int))=.int .i64 (2 * x):=wrap64 (by omega) (by omega)
  have w2:Yp .i64 (8 * (i:Int))=.int .i64 ((8 * i:Nat):Int):=by rw[wrap64 (by omega) (by omega)]; congr 1
  have w3:Yp .i64 (((8 * i:Nat):Int)+(j:Int))=.int .i64 ((8 * i+j:Nat):Int):=by rw[wrap64 (by omega) (by omega)]; congr 1
  have w4:Yp .i64 (2 * (x:Int)+1)=.int .i64 (2 * x+1):=wrap64 (by omega) (by omega)
  have w5:Yp .i64 ((j:Int) - 1)=.int .i64 ((j:Int) - 1):=wrap64 (by omega) (by omega)
  have b1:Nat.blt (8 * i+j) 2048=true:=Uy (by omega)
  have r1:=Zlk f (8 * i+j) (by omega)
  have n1:Ul (some (.int .i64 ((8 * i+j:Nat):Int)))=some (8 * i+j):=rfl
  cases hf:f (8 * i+j) with
  | true =>
   rw[hf] at r1 hstep
   iterate 15 (first|apply Goes.seq|apply Goes.skip|apply Goes.block|apply Goes.loop|((first|apply Goes.Zm|apply Goes.ops2 fits Hh Zc); · simp (decide:=true) only [go_sem,Zo,H.get_put,H.Zi,Za,Zw,reduceIte,Nat.reduceAdd,Nat.reduceMul,Zv,Z7,asC,Zd,Yf,Ya,h0,h4,h5,h6,d1,w1,w2,w3,w4,w5,b1,r1,n1,hb,Mo,Sw,T9,Zca,Zz3,Nat.beq_refl,Nat.zero_add,Nat.mul_one,cW]<;>rfl))
   show Goes K Tryz.prog 31 none (.loop (q49 [1,1,0,1,2,2,1,0,2,1,0,1,2,2])) _ _ _ _
   rw[←Mg]
   refine (ih _ (by omega) ?_ ?_ ?_ ?_).mono ?_
   ·simp (decide:=true) only [Zd,reduceIte,h0]
   ·simp (decide:=true) only [Zd,reduceIte,h4]
   ·simp (decide:=true) only [Zd,reduceIte,hstep,Bool.toNat_true]
    rfl
   ·simp (decide:=true) only [Zd,reduceIte]
   ·rintro y ds' ts' h' ⟨e1,e2,e3,e4,e5⟩
    refine⟨e1,e2,e3,e4,fun s hs=>?_⟩
    rw[e5 s hs]
    simp (decide:=true) only [Yo hs]
  | false =>
   rw[hf] at r1 hstep
   iterate 15 (first|apply Goes.seq|apply Goes.skip|apply Goes.block|apply Goes.loop|((first|apply Goes.Zm|apply Goes.ops2 fits Hh Zc); · simp (decide:=true) only [go_sem,Zo,H.get_put,H.Zi,Za,Zw,reduceIte,Nat.reduceAdd,Nat.reduceMul,Zv,Z7,asC,Zd,Yf,Ya,h0,h4,h5,h6,d1,w1,w2,w3,w4,w5,b1,r1,n1,hb,Mo,Sw,T9,Zca,Zz3,Nat.beq_refl,Nat.zero_add,Nat.mul_one,cW]<;>rfl))
   show Goes K Tryz.prog 31 none (.loop (q49 [1,1,0,1,2,2,1,0,2,1,0,1,2,2])) _ _ _ _
   rw[←Mg]
   refine (ih _ (by omega) ?_ ?_ ?_ ?_).mono ?_
   ·simp (decide:=true) only [Zd,reduceIte,h0]
   ·simp (decide:=true) only [Zd,reduceIte,h4]
   ·simp (decide:=true) only [Zd,reduceIte,hstep,Bool.toNat_false]
    rfl
   ·simp (decide:=true) only [Zd,reduceIte]
   ·rintro y ds' ts' h' ⟨e1,e2,e3,e4,e5⟩
    refine⟨e1,e2,e3,e4,fun s hs=>?_⟩
    rw[e5 s hs]
    simp (decide:=true) only [Yo hs]
def Xj (f:Nat→Bool) (i:Nat):List C:=(List.range 256).map fun t=>.int .u8 (if t<i then byteOf f t 8 else 0:Nat)
def pack (f:Nat→Bool):List C:=(List.range 256).map fun t=>.int .u8 (byteOf f t 8:Nat)
omit Hh in
theorem Zsn (f:Nat→Bool):Xj f 256=pack f:=by
 unfold Xj pack
 refine List.map_congr_left fun t ht=>?_
 rw[if_pos (List.mem_range.1 ht)]
omit Hh in
theorem Zri (f:Nat→Bool):Xj f 0=List.replicate 256 (.int .u8 0):=by
 unfold Xj
 refine List.ext_getElem (by rw[List.length_map,List.length_range,List.length_replicate]) fun t h1 h2=>?_
 rw[List.getElem_replicate,List.getElem_map,if_neg (by omega)]
 rfl
omit Hh in
theorem Zkb (f:Nat→Bool) (i:Nat):(Xj f i).length=256:=by simp [Xj]
omit Hh in
theorem Znp (f:Nat→Bool) (i:Nat) (hi:i<256):Z4 256 [Xj f i] i [.int .u8 (byteOf f i 8:Nat)]=some [Xj f (i+1)]:=by
 have e1:i / 256=0:=by omega
 have e2:i % 256=i:=by omega
 have e3:Nat.blt i (Xj f i).length=true:=Uy (by rw[Zkb]; exact hi)
 simp only[Z4,e1,e2,List.getElem?_cons_zero,e3,cond_true,List.set_cons_zero]
 congr 2
 refine List.ext_getElem (by simp [Xj]) fun t h1 h2=>?_
 simp only[List.getElem_set]
 simp only[Xj,List.getElem_map,List.getElem_range]
 by_cases e:i=t
 ·subst e
  simp
 ·rw[if_neg e]
  congr 2
  by_cases h3:t<i
  ·rw[if_pos h3,if_pos (by omega)]
  ·rw[if_neg h3,if_neg (by omega)]
omit Hh in
theorem Zsj (f:Nat→Bool):(V.w (.g (pack f))).flat=true:=by
 simp only[V.flat,W.flat,List.all_eq_true]
 intro x hx
 simp only[pack,List.mem_map] at hx
 obtain⟨t,_,rfl⟩:=hx
 rfl
theorem outer (f:Nat→Bool) (nb r3:Nat) (hne:nb≠r3) (ro:Bool):∀ (k i:Nat) (ts:Zu) (h:Go.Ev.H),i+k=256→h.get nb=some (.row 1 (Ju f) ro)→h.get r3=some (.row 256 [Xj f i] false)→Zk ts 0=.w (.c (.slice nb 0 2048 1))→Zk ts 3=.w (.c (.ptr r3 0))→Zk ts 4=.w (.c (.int .i64 i)) →
  Goes K Tryz.prog 31 none (q49 [1,1,0,1,2]) [] ts h fun x ds' ts' h'=>x=.exit 0∧ds'=[]∧h'.next=h.next∧(∀ n,n≠r3→h'.get n=h.get n)∧h'.get r3=some (.row 256 [pack f] false)∧∀ s,s≤3→Zk ts' s=Zk ts s:=by
 intro k
 induction k with
 | zero =>
  intro i ts h hi hb hr h0 h3 h4
  have ei:i=256:=by omega
  subst ei
  iterate 6 (first|apply Goes.seq|apply Goes.exit|apply Goes.loop|((first|apply Goes.Zm|apply Goes.ops2 fits Hh Zc); · simp (decide:=true) only [go_sem,Zo,H.get_put,H.Zi,Za,Zw,reduceIte,Nat.reduceAdd,Nat.reduceMul,Zv,Z7,asC,Zd,Yf,Ya,h4]<;>rfl))
  refine⟨rfl,rfl,rfl,fun _ _=>rfl,by rw[hr,Zsn],fun s hs=>?_⟩
  simp (decide:=true) only [Yo hs]
 | succ k ih =>
  intro i ts h hi hb hr h0 h3 h4
  have d1:decide ((i:Int)<256)=true:=decide_eq_true (by omega)
  iterate 13 (first|apply Goes.seq|apply Goes.skip|apply Goes.block|apply Goes.loop|((first|apply Goes.Zm|apply Goes.ops2 fits Hh Zc); · simp (decide:=true) only [go_sem,Zo,H.get_put,H.Zi,Za,Zw,reduceIte,Nat.reduceAdd,Nat.reduceMul,Zv,Z7,asC,Zd,Yf,Ya,h4,d1]<;>rfl))
  show Goes K Tryz.prog 31 none (q49 [1,1,0,1,2,2,1,0,2,1,0,1]) _ _ _ _
  rw[Zbc]
  refine Goes.block ((inner Hh f nb i (by omega) ro h hb 8 _ (by omega) ?_ ?_ ?_ ?_).mono ?_)
  ·simp (decide:=true) only [Zd,reduceIte,h0]
  ·simp (decide:=true) only [Zd,reduceIte,h4]
  ·simp (decide:=true) only [Zd,reduceIte]
   rfl
  ·simp (decide:=true) only [Zd,reduceIte]
   rfl
  rintro x ds' ts' h' ⟨rfl,rfl,rfl,e5,elow⟩
  have f0:Zk ts' 0=.w (.c (.slice nb 0 2048 1)):=by rw[elow 0 (by decide)]; simp (decide:=true) only [Zd,reduceIte,h0]
  have f2:Zk ts' 2=Zk ts 2:=by rw[elow 2 (by decide)]; simp (decide:=true) only [Zd,reduceIte]
  have f1:Zk ts' 1=Zk ts 1:=by rw[elow 1 (by decide)]; simp (decide:=true) only [Zd,reduceIte]
  have f3:Zk ts' 3=.w (.c (.ptr r3 0)):=by rw[elow 3 (by decide)]; simp (decide:=true) only [Zd,reduceIte,h3]
  have f4:Zk ts' 4=.w (.c (.int .i64 i)):=by rw[elow 4 (by decide)]; simp (decide:=true) only [Zd,reduceIte,h4]
  have hlt:=Zgu f i 8
  have w8:Yp .u8 (byteOf f i 8:Int)=.int .u8 (byteOf f i 8):=by rw[Zjm]; congr 1; omega
  have w9:Yp .i64 ((i:Int)+1)=.int .i64 ((i+1:Nat):Int):=by rw[wrap64 (by omega) (by omega)]; congr 1
  have b1:Nat.blt i 256=true:=Uy (by omega)
  have wr:=Znp f i (by omega)
  show Goes K Tryz.prog 31 none (q49 [1,1,0,1,2,2,1,0,2,1,1]) _ _ _ _
  iterate 2 ((apply Goes.ops2 fits Hh Zc; · simp (decide:=true) only [go_sem,Zo,H.get_put,H.Zi,Za,Zw,reduceIte,Nat.reduceAdd,Nat.reduceMul,f0,f2,f3,f4,e5,w8,w9,b1,wr,hr,J4,Ec,Jb,Z1w,Z3v,Mj,Nat.beq_refl,Nat.zero_add,Nat.mul_one]<;>rfl))
  show Goes K Tryz.prog 31 none (.loop (q49 [1,1,0,1,2,2])) _ _ _ _
  rw[←Zro]
  refine (ih (i+1) _ _ (by omega) ?_ ?_ ?_ ?_ ?_).mono ?_
  ·rw[H.get_put,if_neg hne]; exact hb
  ·rw[H.get_put,if_pos rfl]
  ·simp (decide:=true) only [Zd,reduceIte,f0]
  ·simp (decide:=true) only [Zd,reduceIte,f3]
  ·simp (decide:=true) only [Zd,reduceIte]
  ·rintro x ds' ts'' h'' ⟨g1,g2,g3,g4,g5,g6⟩
   refine⟨g1,g2,g3,fun n hn=>?_,g5,fun s hs=>?_⟩
   ·rw[g4 n hn,H.get_put,if_neg hn]
   ·rw[g6 s hs]
    simp (decide:=true) only [Yo hs]
    rw[elow s (Nat.le_trans hs (by decide))]
    simp (decide:=true) only [Yo hs]
theorem Zat (f:Nat→Bool) (nb:Nat) (ro:Bool) (h:Go.Ev.H) (hb:h.get nb=some (.row 1 (Ju f) ro)):Ze K Tryz.prog 49 [.c (.slice nb 0 2048 1)] h (.w (.g (pack f))) h:=by
 refine Ze.tidy ⟨_,Tryz.func49,by kernel_rfl,of_decide_eq_true (by kernel_rfl)⟩ fun tidy=>?_
 have hnb:=tidy nb _ hb
 have z54:ti71.zero.cells=Xj f 0:=by rw[Zri]; rfl
 have e0:Zk (Jo 0 [.c (.slice nb 0 2048 1)] .nil) 0=.w (.c (.slice nb 0 2048 1)):=by rw[J9]; rfl
 suffices hs:∃ h',(∀ n,n<h.next→h'.get n=h.get n)∧Ze K Tryz.prog 49 [.c (.slice nb 0 2048 1)] h (.w (.g (pack f))) h' by
  obtain⟨h',e2,c⟩:=hs
  exact c.quiet (Zsj f) e2
 suffices hs:Goes K Tryz.prog 31 none (q49 []) [] (Jo 0 [.c (.slice nb 0 2048 1)] .nil) h fun x ds ts h1=>(∀ n,n<h.next→h1.get n=h.get n)∧leave K Tryz.f49 (some (.at x ds ts h1))=some (.val (.w (.g (pack f))) h1) by
  obtain⟨x,ds,ts,h1,g,e2,e3⟩:=hs
  exact⟨h1,e2,Ze.body fits Hh (by kernel_rfl) (by kernel_rfl) (by kernel_rfl) (by kernel_rfl) rfl g e3⟩
 iterate 8 (first|apply Goes.seq|apply Goes.block|(apply Goes.ops2 fits Hh Zc; · simp (decide:=true) only [go_sem,Zo,H.get_put,H.Zi,Za,Zw,reduceIte,Nat.reduceAdd,Nat.reduceMul,e0,J4,U6,z54]<;>rfl))
 show Goes K Tryz.prog 31 none (q49 [1,1,0,1,2]) _ _ _ _
 refine (outer Hh f nb (h.next+1) (by omega) ro 256 0 _ _ rfl ?_ ?_ ?_ ?_ ?_).mono ?_
 ·rw[H.Zi,H.Zg,if_neg (by omega),H.Zi,if_neg (by omega)]; exact hb
 ·rw[H.Zi,H.Zg,if_pos rfl]
 ·simp (decide:=true) only [Zd,reduceIte,e0]
 ·simp (decide:=true) only [Zd,reduceIte,H.Zg]
 ·simp (decide:=true) only [Zd,reduceIte]
  rfl
 rintro x ds' ts' h' ⟨rfl,rfl,hn,hk,hr,elow⟩
 have f2:Zk ts' 2=.w (.c (.ptr h.next 0)):=by rw[elow 2 (by decide)]; simp (decide:=true) only [Zd,reduceIte]
 have f3:Zk ts' 3=.w (.c (.ptr (h.next+1) 0)):=by rw[elow 3 (by decide)]; simp (decide:=true) only [Zd,reduceIte,H.Zg]
 have hr2:h'.get h.next=some (.row 256 [Xj f 0] false):=by
  rw[hk h.next (by omega),H.Zi,H.Zg,if_neg (by omega),H.Zi,if_pos rfl]
 have rd:Zb 256 [pack f] 0 256=some (pack f):=by
  have e:(pack f).length=256:=by simp [pack]
  have:=Tt (l:=pack f) (by omega)
  rwa [e] at this
 have wr:Z4 256 [Xj f 0] 0 (pack f)=some [pack f]:=by
  have e:(pack f).length=256:=by simp [pack]
  have:=Rk (l:=Xj f 0) (l':=pack f) (by omega) (by rw[Zkb,e])
  rwa [e] at this
 have lp:(pack f).length=256:=by simp [pack]
 show Goes K Tryz.prog 31 none (q49 [1,1,1]) _ _ _ _
 iterate 3 (first|apply Goes.seq|apply Goes.ret|(apply Goes.ops2 fits Hh Zc; · simp (decide:=true) only [go_sem,Zo,H.get_put,H.Zi,Za,Zw,reduceIte,Nat.reduceAdd,Nat.reduceMul,f2,f3,hr,hr2,rd,wr,lp,J4,Ov,U6,gW,Nat.beq_refl]<;>rfl))
 refine⟨fun n hn'=>?_,?_⟩
 ·rw[H.get_put,if_neg (by omega),hk n (by omega),H.Zi,H.Zg,if_neg (by omega),H.Zi,if_neg (by omega)]
 ·have e1:Tryz.f49.results.toList=[.cell 2 71]:=rfl
  simp (decide:=true) only [Oa,Y8,finish,e1,Y5,Zv,Z7,asC,Zd,reduceIte,f2,Go.Ev.load,J4,Za,Ov,U6,H.get_put,cond_true,rd,gW,J5]
end
theorem Uf:K.types.get 48=some ti48:=by kernel_rfl
theorem G8:ti48.size=4:=rfl
theorem G9:ti48.agg=true:=rfl
theorem Xu:Zn K 48 0=some (0,ti3):=by kernel_rfl
theorem Qe:Zn K 48 1=some (1,ti3):=by kernel_rfl
theorem Fs:Zn K 48 2=some (2,ti3):=by kernel_rfl
theorem Zut:Zn K 48 3=some (3,ti3):=by kernel_rfl
theorem geo0 (a b c d:C):read1 4 [[a,b,c,d]] 0=some a:=rfl
theorem geo1 (a b c d:C):read1 4 [[a,b,c,d]] 1=some b:=rfl
theorem geo2 (a b c d:C):read1 4 [[a,b,c,d]] 2=some c:=rfl
theorem geo3 (a b c d:C):read1 4 [[a,b,c,d]] 3=some d:=rfl
noncomputable def q46 (p:List Nat):Code:=piece p (Uq Tryz.f46)
noncomputable def q47 (p:List Nat):Code:=piece p (Uq Tryz.f47)
theorem Znw:q47 [1,1,1,0,1,2]=.loop (q47 [1,1,1,0,1,2,2]):=by kernel_rfl
theorem Zjo:q47 [1,1,1,1,1,0,1,2]=.loop (q47 [1,1,1,1,1,0,1,2,2]):=by kernel_rfl
theorem Xk:q47 [1,1,1,1,1,0,1,2,2,1,0,2,1,0,1]=.block 4 (q47 [1,1,1,1,1,0,1,2,2,1,0,2,1,0,1,2]):=by kernel_rfl
theorem Vj:q47 [1,1,1,1,1,0,1,2,2,1,0,2,1,0,1,2]=.loop (q47 [1,1,1,1,1,0,1,2,2,1,0,2,1,0,1,2,2]):=by kernel_rfl
theorem Xi:q47 [1,1,1,1,1,0,1,2,2,1,0,2,1,1,1]=.block 6 (q47 [1,1,1,1,1,0,1,2,2,1,0,2,1,1,1,2]):=by kernel_rfl
theorem Tm:q47 [1,1,1,1,1,0,1,2,2,1,0,2,1,1,1,2]=.loop (q47 [1,1,1,1,1,0,1,2,2,1,0,2,1,1,1,2,2]):=by kernel_rfl
section
variable (Hh:Hearts K Tryz.prog)
include Hh
theorem Zz7 {gr sz ino jr:Nat} (F:Fine gr sz ino jr) (h:Go.Ev.H):Ze K Tryz.prog 46 [.g (Yn gr sz ino jr)] h (.w (.c (.bool true))) h:=by
 refine Ze.tidy ⟨_,Tryz.func46,by kernel_rfl,of_decide_eq_true (by kernel_rfl)⟩ fun tidy=>?_
 suffices hs:Goes K Tryz.prog 66 none (q46 []) [] (Jo 0 [.g (Yn gr sz ino jr)] .nil) h fun x ds ts h1=>(∀ n,n<h.next→h1.get n=h.get n)∧leave K Tryz.f46 (some (.at x ds ts h1))=some (.val (.w (.c (.bool true))) h1) by
  obtain⟨x,ds,ts,h1,g,e2,e3⟩:=hs
  exact (Ze.body fits Hh (by kernel_rfl) (by kernel_rfl) (by kernel_rfl) (by kernel_rfl) rfl g e3).quiet rfl e2
 obtain⟨g1,g2,g3,g4,g5,g6,g7,g8,g9,g10,g11⟩:=F
 have e0:Zk (Jo 0 [.g (Yn gr sz ino jr)] .nil) 0=.w (.g [.int .i64 gr,.int .i64 sz,.int .i64 ino,.int .i64 jr]):=by rw[J9]; rfl
 have c1:decide ((gr:Int)<1)=false:=decide_eq_false (by omega)
 have c2:decide ((gr:Int) > 4)=false:=decide_eq_false (by omega)
 have c3:decide ((sz:Int)<16)=false:=decide_eq_false (by omega)
 have c4:decide ((sz:Int) > 512)=false:=decide_eq_false (by omega)
 have c5:decide ((ino:Int)<4)=false:=decide_eq_false (by omega)
 have c6:decide ((ino:Int) > 64)=false:=decide_eq_false (by omega)
 have c7:Bo .i64 (ino:Int) 4=some (.int .i64 0):=by
  show some (C.int .i64 ((ino:Int).tmod 4))=_
  rw[show (ino:Int).tmod 4=((ino % 4:Nat):Int) from rfl,g7]
  rfl
 have c8:decide ((jr:Int)<40)=false:=decide_eq_false (by omega)
 have c9:decide ((jr:Int) > 256)=false:=decide_eq_false (by omega)
 have q1:Dz .i64 (ino:Int) 4=some (.int .i64 ((ino / 4:Nat):Int)):=by
  show some (Yp .i64 ((ino:Int).tdiv 4))=_
  rw[show (ino:Int).tdiv 4=((ino / 4:Nat):Int) from rfl,wrap64 (by omega) (by omega)]
 have w1:Yp .i64 (3+((ino / 4:Nat):Int))=.int .i64 ((3+ino / 4:Nat):Int):=by rw[wrap64 (by omega) (by omega)]; congr 1
 have c10:decide ((sz:Int) ≥ ((3+ino / 4:Nat):Int))=true:=decide_eq_true (by omega)
 have w2:Yp .i64 (2+(jr:Int))=.int .i64 ((2+jr:Nat):Int):=by rw[wrap64 (by omega) (by omega)]; congr 1
 have hm:gr * sz≤2048:=by omega
 have w3:Yp .i64 ((gr:Int) * (sz:Int))=.int .i64 ((gr * sz:Nat):Int):=by
  have e:(gr:Int) * (sz:Int)=((gr * sz:Nat):Int):=by simp
  rw[e,wrap64 (by omega) (by omega)]
 have w4:Yp .i64 (((2+jr:Nat):Int)+((gr * sz:Nat):Int))=.int .i64 ((2+jr+gr * sz:Nat):Int):=by rw[wrap64 (by omega) (by omega)]; congr 1
 have c11:decide (((2+jr+gr * sz:Nat):Int)≤2048)=true:=decide_eq_true (by omega)
 have e1:Tryz.f46.results.toList=[.tmp 2]:=rfl
 have z0:((0:Int) != 0)=false:=rfl
 iterate 10 (first|apply Goes.seq|apply Goes.skip|apply Goes.ret|((first|apply Goes.Zm|apply Goes.ops2 fits Hh Zc); · simp (decide:=true) only [go_sem,Zo,H.get_put,H.Zi,Za,Zw,reduceIte,Nat.reduceAdd,Nat.reduceMul,Zv,Z7,asC,Zd,Yf,Ya,e0,c1,c2,c3,c4,c5,c6,c7,c8,c9,q1,w1,c10,w2,w3,w4,c11,z0,Zx,Xu,Qe,Fs,Zut,geo0,geo1,geo2,geo3,Jb,U5,U9,cW,Nat.zero_add]<;>rfl))
 refine⟨fun n hn=>?_,?_⟩
 ·rw[H.Zi,if_neg (by omega)]
 ·simp (decide:=true) only [Oa,Y8,finish,e1,Y5,evalW,Z7,asW,Zd,reduceIte,J5]
end
def thing (k gr at' ino:Int):List C:=[.int .u8 k,.int .i64 gr,.int .i64 at',.int .i64 ino]
theorem Jd:K.types.get 125=some ti125:=by kernel_rfl
theorem Lg:Y3 K 117=some ti125:=by kernel_rfl
theorem Jy:ti125.size=4:=rfl
theorem Zvr:ti125.bytes=32:=rfl
theorem bld1 (k:Int):Yc K 125 (some [(0,.c (.int .u8 k))])=some (.g [.int .u8 k,.int .i64 0,.int .i64 0,.int .i64 0]):=by kernel_rfl
theorem bld3 (k a:Int):Yc K 125 (some [(0,.c (.int .u8 k)),(2,.c (.int .i64 a))])=some (.g [.int .u8 k,.int .i64 0,.int .i64 a,.int .i64 0]):=by kernel_rfl
theorem bld4 (k a:Int):Yc K 125 (some [(0,.c (.int .u8 k)),(1,.c (.int .i64 a))])=some (.g [.int .u8 k,.int .i64 a,.int .i64 0,.int .i64 0]):=by kernel_rfl
theorem bld5 (k a b:Int):Yc K 125 (some [(0,.c (.int .u8 k)),(1,.c (.int .i64 a)),(2,.c (.int .i64 b))])=some (.g [.int .u8 k,.int .i64 a,.int .i64 b,.int .i64 0]):=by kernel_rfl
theorem bld6 (k a b c:Int):Yc K 125 (some [(0,.c (.int .u8 k)),(1,.c (.int .i64 a)),(2,.c (.int .i64 b)),(3,.c (.int .i64 c))])=some (.g [.int .u8 k,.int .i64 a,.int .i64 b,.int .i64 c]):=by kernel_rfl
theorem bs1 (h:Go.Ev.H) (a b c d:C):Y2 h 1 (some ti125) (some [(0,.g [a,b,c,d])])=some (.w (.c (.slice h.next 0 1 4)),h.new (.row 4 [[a,b,c,d]] false)):=rfl
theorem bs2 (h:Go.Ev.H) (a b c d a' b' c' d':C):Y2 h 2 (some ti125) (some [(0,.g [a,b,c,d]),(1,.g [a',b',c',d'])])=some (.w (.c (.slice h.next 0 2 4)),h.new (.row 4 [[a,b,c,d],[a',b',c',d']] false)):=rfl
theorem Zai (n off len sz:Nat):Yy K 117 (.slice n off len sz)=true:=by unfold Yy; rw[show K.types.get 117=some ti117 by kernel_rfl]; rfl
structure AllSt (p:Nat) (h0:Go.Ev.H) (L:List (List C)) (ts:Zu) (h:Go.Ev.H):Prop where
 p1:Zk ts 1=.w (.c (.ptr p 0))
 sl:∃ n,Zk ts 3=.w (.c (.slice n 0 L.length 4))∧h.get n=some (.row 4 L false)∧p<n∧n<h.next
 up:h0.next≤h.next
 keep:∀ m,m≤p→h.get m=h0.get m
theorem AllSt.grow {p n:Nat} {h0 h:Go.Ev.H} {L M:List (List C)} {ts ts':Zu} (s:AllSt p h0 L ts h) (hn:p<n) (hlt:n<h.next) (e1:Zk ts' 1=.w (.c (.ptr p 0))) (e3:Zk ts' 3=.w (.c (.slice (h.next+1) 0 (L.length+M.length) 4))):AllSt p h0 (L++M) ts' (((h.new (.row 4 M false)).del n).new (.row 4 (L++M) false)):=by
 refine⟨e1,⟨h.next+1,by rw[e3,List.length_append],?_,by omega,?_⟩,?_,fun m hm=>?_⟩
 ·rw[H.Zi,H.Zr,H.Zg,if_pos rfl]
 ·rw[H.Zg,H.Zr,H.Zg]; omega
 ·rw[H.Zg,H.Zr,H.Zg]; have:=s.up; omega
 ·rw[H.Zi,H.Zr,H.Zg,if_neg (by omega),H.Yd,if_neg (by omega),H.Zi,if_neg (by omega)]
  exact s.keep m hm
theorem AllSt.same {p:Nat} {h0 h:Go.Ev.H} {L:List (List C)} {ts ts':Zu} (s:AllSt p h0 L ts h) (e1:Zk ts' 1=Zk ts 1) (e3:Zk ts' 3=Zk ts 3):AllSt p h0 L ts' h :=
 ⟨by rw[e1]; exact s.p1,by rw[e3]; exact s.sl,s.up,s.keep⟩
theorem grow1 {h:Go.Ev.H} {n:Nat} {L:List (List C)} (x:List C) (ho:h.get n=some (.row 4 L false)) (hn:n<h.next) (hl:L.length≤4000) :
  Uj (h.new (.row 4 [x] false)) (some ti125) (.slice n 0 L.length 4) (.slice h.next 0 1 4)=some (.w (.c (.slice (h.next+1) 0 (L.length+1) 4)),((h.new (.row 4 [x] false)).del n).new (.row 4 (L++[x]) false)) :=
 Nz (M:=[x]) Jy (by rw[H.Zi,if_neg (by omega)]; exact ho) (by rw[H.Zi,if_pos rfl]) (by simp) (by rw[Zvr]; show (L.length+1) * 32≤_; omega) (by show L.length+1≤_; omega)
theorem grow2 {h:Go.Ev.H} {n:Nat} {L:List (List C)} (x y:List C) (ho:h.get n=some (.row 4 L false)) (hn:n<h.next) (hl:L.length≤4000) :
  Uj (h.new (.row 4 [x,y] false)) (some ti125) (.slice n 0 L.length 4) (.slice h.next 0 2 4)=some (.w (.c (.slice (h.next+1) 0 (L.length+2) 4)),((h.new (.row 4 [x,y] false)).del n).new (.row 4 (L++[x,y]) false)) :=
 Nz (M:=[x,y]) Jy (by rw[H.Zi,if_neg (by omega)]; exact ho) (by rw[H.Zi,if_pos rfl]) (by simp) (by rw[Zvr]; show (L.length+2) * 32≤_; omega) (by show L.length+2≤_; omega)
def jrL (i:Nat):List (List C):=[thing 1 0 0 0,thing 2 0 0 0]++(List.range i).map fun (j:Nat)=>thing 3 0 j 0
def inL (a ino c:Nat):List (List C):=(List.range c).map fun (k:Nat)=>thing 6 a ((2+k:Nat):Int) ((1+a * ino+4 * k:Nat):Int)
def daL (a ino d:Nat):List (List C):=(List.range d).map fun (k:Nat)=>thing 7 a ((2+ino / 4+k:Nat):Int) 0
def grL (sz ino a:Nat):List (List C):=[thing 4 a 0 0,thing 5 a 1 0]++inL a ino (ino / 4)++daL a ino (sz - (2+ino / 4))
def Gh (sz ino a:Nat):List (List C):=(List.range a).flatMap (grL sz ino)
def U7 (gr sz ino jr:Nat):List (List C):=jrL jr++Gh sz ino gr
theorem Zcx (i:Nat):(jrL i).length=2+i:=by simp [jrL]; omega
theorem Zu3 (i:Nat):jrL (i+1)=jrL i++[thing 3 0 i 0]:=by simp [jrL,List.range_succ]
theorem Zi1 (a ino c:Nat):(inL a ino c).length=c:=by simp [inL]
theorem Zvd (a ino c:Nat):inL a ino (c+1)=inL a ino c++[thing 6 a ((2+c:Nat):Int) ((1+a * ino+4 * c:Nat):Int)]:=by simp [inL,List.range_succ]
theorem Zpj (a ino d:Nat):(daL a ino d).length=d:=by simp [daL]
theorem Zv0 (a ino d:Nat):daL a ino (d+1)=daL a ino d++[thing 7 a ((2+ino / 4+d:Nat):Int) 0]:=by simp [daL,List.range_succ]
theorem Zy1 {sz ino:Nat} (h:3+ino / 4≤sz) (a:Nat):(grL sz ino a).length=sz:=by simp [grL,Zi1,Zpj]; omega
theorem Qc (sz ino a:Nat):Gh sz ino (a+1)=Gh sz ino a++grL sz ino a:=by simp [Gh,List.range_succ]
theorem Vh {sz ino:Nat} (h:3+ino / 4≤sz) (a:Nat):(Gh sz ino a).length=a * sz:=by
 induction a with
 | zero=>simp [Gh]
 | succ a ih=>rw[Qc,List.length_append,ih,Zy1 h,Nat.succ_mul]
section
variable (Hh:Hearts K Tryz.prog)
include Hh
theorem all1 {gr sz ino jr:Nat} (F:Fine gr sz ino jr) (p:Nat) (h0:Go.Ev.H) (hp:h0.get p=some (.row 4 [Yn gr sz ino jr] false)):∀ (k i:Nat) (ts:Zu) (h:Go.Ev.H),i+k=jr→AllSt p h0 (jrL i) ts h→Zk ts 4=.w (.c (.int .i64 i)) →
  Goes K Tryz.prog 73 none (q47 [1,1,1,0,1,2]) [] ts h fun x ds' ts' h'=>x=.exit 0∧ds'=[]∧AllSt p h0 (jrL jr) ts' h':=by
 obtain⟨g1,g2,g3,g4,g5,g6,g7,g8,g9,g10,g11⟩:=F
 intro k
 induction k with
 | zero =>
  intro i ts h hi st h4
  have ei:i=jr:=by omega
  subst ei
  have hg:h.get p=some (.row 4 [[.int .i64 gr,.int .i64 sz,.int .i64 ino,.int .i64 i]] false):=(st.keep p (Nat.le_refl _)).trans hp
  have h1:=st.p1
  have c1:decide ((i:Int)<(i:Int))=false:=decide_eq_false (by omega)
  iterate 6 (first|apply Goes.seq|apply Goes.exit|apply Goes.loop|((first|apply Goes.Zm|apply Goes.ops2 fits Hh Zc); · simp (decide:=true) only [go_sem,Zo,H.get_put,H.Zi,Za,Zw,reduceIte,Nat.reduceAdd,Nat.reduceMul,Zv,Z7,asC,Zd,Yf,Ya,h4,h1,hg,c1,Zut,geo3,Jb,U5,U9,cW,Nat.zero_add]<;>rfl))
  refine⟨rfl,rfl,st.same ?_ ?_⟩
  ·simp (decide:=true) only [Zd,reduceIte]
  ·simp (decide:=true) only [Zd,reduceIte]
 | succ k ih =>
  intro i ts h hi st h4
  have hg:h.get p=some (.row 4 [[.int .i64 gr,.int .i64 sz,.int .i64 ino,.int .i64 jr]] false):=(st.keep p (Nat.le_refl _)).trans hp
  have h1:=st.p1
  obtain⟨n,h3,hn,hpn,hlt⟩:=st.sl
  have c1:decide ((i:Int)<(jr:Int))=true:=decide_eq_true (by omega)
  have w1:Yp .i64 ((i:Int)+1)=.int .i64 ((i+1:Nat):Int):=by rw[wrap64 (by omega) (by omega)]; congr 1
  have ap:=grow1 (thing 3 0 i 0) hn hlt (by rw[Zcx]; omega)
  simp only[thing] at ap
  iterate 10 (first|apply Goes.seq|apply Goes.skip|apply Goes.block|apply Goes.loop|((first|apply Goes.Zm|apply Goes.ops2 fits Hh Zc); · simp (decide:=true) only [go_sem,Zo,H.get_put,H.Zi,Za,Zw,reduceIte,Nat.reduceAdd,Nat.reduceMul,Zv,Z7,asC,Zd,Yf,Ya,h4,h1,h3,hg,c1,w1,ap,Zut,geo3,Jb,U5,U9,cW,Nat.zero_add,bld3,bs1,Lg,Zai,Zh]<;>rfl))
  show Goes K Tryz.prog 73 none (.loop (q47 [1,1,1,0,1,2,2])) _ _ _ _
  rw[←Znw]
  refine ih (i+1) _ _ (by omega) ?_ ?_
  ·rw[Zu3]
   refine st.grow hpn hlt ?_ ?_
   ·simp (decide:=true) only [Zd,reduceIte,h1]
   ·simp (decide:=true) only [Zd,reduceIte]
    rfl
  ·simp (decide:=true) only [Zd,reduceIte]
theorem all4 {gr sz ino jr:Nat} (F:Fine gr sz ino jr) (a:Nat) (ha:a<gr) (p:Nat) (h0:Go.Ev.H) (hp:h0.get p=some (.row 4 [Yn gr sz ino jr] false)) (B:List (List C)) (hB:B.length≤2060):∀ (k c:Nat) (ts:Zu) (h:Go.Ev.H),c+k=ino / 4→AllSt p h0 (B++inL a ino c) ts h→Zk ts 6=.w (.c (.int .i64 a))→Zk ts 7=.w (.c (.int .i64 ((4 * c:Nat):Int)))→Zk ts 5=.w (.c (.int .i64 ((1+a * ino+4 * c:Nat):Int))) →
  Goes K Tryz.prog 73 none (q47 [1,1,1,1,1,0,1,2,2,1,0,2,1,0,1,2]) [] ts h fun x ds' ts' h'=>x=.exit 4∧ds'=[]∧AllSt p h0 (B++inL a ino (ino / 4)) ts' h'∧Zk ts' 6=.w (.c (.int .i64 a))∧Zk ts' 5=.w (.c (.int .i64 ((1+(a+1) * ino:Nat):Int))):=by
 obtain⟨g1,g2,g3,g4,g5,g6,g7,g8,g9,g10,g11⟩:=F
 have ham:a * ino≤4 * 64:=Nat.mul_le_mul (by omega) (by omega)
 intro k
 induction k with
 | zero =>
  intro c ts h hc st h6 h7 h5
  have ec:c=ino / 4:=by omega
  subst ec
  have hg:h.get p=some (.row 4 [[.int .i64 gr,.int .i64 sz,.int .i64 ino,.int .i64 jr]] false):=(st.keep p (Nat.le_refl _)).trans hp
  have h1:=st.p1
  have c1:decide (((4 * (ino / 4):Nat):Int)<(ino:Int))=false:=decide_eq_false (by omega)
  iterate 6 (first|apply Goes.seq|apply Goes.exit|apply Goes.loop|((first|apply Goes.Zm|apply Goes.ops2 fits Hh Zc); · simp (decide:=true) only [go_sem,Zo,H.get_put,H.Zi,Za,Zw,reduceIte,Nat.reduceAdd,Nat.reduceMul,Zv,Z7,asC,Zd,Yf,Ya,h7,h1,hg,c1,Fs,geo2,Jb,U5,U9,cW,Nat.zero_add]<;>rfl))
  refine⟨rfl,rfl,st.same ?_ ?_,?_,?_⟩
  ·simp (decide:=true) only [Zd,reduceIte]
  ·simp (decide:=true) only [Zd,reduceIte]
  ·simp (decide:=true) only [Zd,reduceIte,h6]
  ·simp (decide:=true) only [Zd,reduceIte,h5]
   have:1+a * ino+4 * (ino / 4)=1+(a+1) * ino:=by rw[Nat.add_mul,Nat.one_mul]; omega
   rw[this]
 | succ k ih =>
  intro c ts h hc st h6 h7 h5
  have hg:h.get p=some (.row 4 [[.int .i64 gr,.int .i64 sz,.int .i64 ino,.int .i64 jr]] false):=(st.keep p (Nat.le_refl _)).trans hp
  have h1:=st.p1
  obtain⟨n,h3,hn,hpn,hlt⟩:=st.sl
  have c1:decide (((4 * c:Nat):Int)<(ino:Int))=true:=decide_eq_true (by omega)
  have q1:Dz .i64 ((4 * c:Nat):Int) 4=some (.int .i64 (c:Int)):=by
   show some (Yp .i64 (((4 * c:Nat):Int).tdiv 4))=_
   rw[show ((4 * c:Nat):Int).tdiv 4=((4 * c / 4:Nat):Int) from rfl,show 4 * c / 4=c by omega,wrap64 (by omega) (by omega)]
  have w1:Yp .i64 (2+(c:Int))=.int .i64 ((2+c:Nat):Int):=by rw[wrap64 (by omega) (by omega)]; congr 1
  have w2:Yp .i64 (((1+a * ino+4 * c:Nat):Int)+4)=.int .i64 ((1+a * ino+4 * (c+1):Nat):Int):=by rw[wrap64 (by omega) (by omega)]; congr 1
  have w3:Yp .i64 (((4 * c:Nat):Int)+4)=.int .i64 ((4 * (c+1):Nat):Int):=by rw[wrap64 (by omega) (by omega)]; congr 1
  have ap:=grow1 (thing 6 a ((2+c:Nat):Int) ((1+a * ino+4 * c:Nat):Int)) hn hlt (by rw[List.length_append,Zi1]; omega)
  simp only[thing] at ap
  iterate 12 (first|apply Goes.seq|apply Goes.skip|apply Goes.block|apply Goes.loop|((first|apply Goes.Zm|apply Goes.ops2 fits Hh Zc); · simp (decide:=true) only [go_sem,Zo,H.get_put,H.Zi,Za,Zw,reduceIte,Nat.reduceAdd,Nat.reduceMul,Zv,Z7,asC,Zd,Yf,Ya,h7,h6,h5,h1,h3,hg,c1,q1,w1,w2,w3,ap,Fs,geo2,Jb,U5,U9,cW,Nat.zero_add,bld6,bs1,Lg,Zai,Zh]<;>rfl))
  show Goes K Tryz.prog 73 none (.loop (q47 [1,1,1,1,1,0,1,2,2,1,0,2,1,0,1,2,2])) _ _ _ _
  rw[←Vj]
  refine ih (c+1) _ _ (by omega) ?_ ?_ ?_ ?_
  ·rw[Zvd,←List.append_assoc]
   refine st.grow hpn hlt ?_ ?_
   ·simp (decide:=true) only [Zd,reduceIte,h1]
   ·simp (decide:=true) only [Zd,reduceIte]
    rfl
  ·simp (decide:=true) only [Zd,reduceIte,h6]
  ·simp (decide:=true) only [Zd,reduceIte]
  ·simp (decide:=true) only [Zd,reduceIte]
theorem all6 {gr sz ino jr:Nat} (F:Fine gr sz ino jr) (a:Nat) (ha:a<gr) (p:Nat) (h0:Go.Ev.H) (hp:h0.get p=some (.row 4 [Yn gr sz ino jr] false)) (B:List (List C)) (hB:B.length≤2100):∀ (k d:Nat) (ts:Zu) (h:Go.Ev.H),2+ino / 4+d+k=sz→AllSt p h0 (B++daL a ino d) ts h→Zk ts 6=.w (.c (.int .i64 a))→Zk ts 8=.w (.c (.int .i64 ((2+ino / 4+d:Nat):Int))) →
  Goes K Tryz.prog 73 none (q47 [1,1,1,1,1,0,1,2,2,1,0,2,1,1,1,2]) [] ts h fun x ds' ts' h'=>x=.exit 6∧ds'=[]∧AllSt p h0 (B++daL a ino (sz - (2+ino / 4))) ts' h'∧Zk ts' 6=.w (.c (.int .i64 a))∧Zk ts' 5=Zk ts 5:=by
 obtain⟨g1,g2,g3,g4,g5,g6,g7,g8,g9,g10,g11⟩:=F
 intro k
 induction k with
 | zero =>
  intro d ts h hd st h6 h8
  have ed:d=sz - (2+ino / 4):=by omega
  subst ed
  have hg:h.get p=some (.row 4 [[.int .i64 gr,.int .i64 sz,.int .i64 ino,.int .i64 jr]] false):=(st.keep p (Nat.le_refl _)).trans hp
  have h1:=st.p1
  have c1:decide (((2+ino / 4+(sz - (2+ino / 4)):Nat):Int)<(sz:Int))=false:=decide_eq_false (by omega)
  iterate 6 (first|apply Goes.seq|apply Goes.exit|apply Goes.loop|((first|apply Goes.Zm|apply Goes.ops2 fits Hh Zc); · simp (decide:=true) only [go_sem,Zo,H.get_put,H.Zi,Za,Zw,reduceIte,Nat.reduceAdd,Nat.reduceMul,Zv,Z7,asC,Zd,Yf,Ya,h8,h1,hg,c1,Qe,geo1,Jb,U5,U9,cW,Nat.zero_add]<;>rfl))
  refine⟨rfl,rfl,st.same ?_ ?_,?_,?_⟩
  ·simp (decide:=true) only [Zd,reduceIte]
  ·simp (decide:=true) only [Zd,reduceIte]
  ·simp (decide:=true) only [Zd,reduceIte,h6]
  ·simp (decide:=true) only [Zd,reduceIte]
 | succ k ih =>
  intro d ts h hd st h6 h8
  have hg:h.get p=some (.row 4 [[.int .i64 gr,.int .i64 sz,.int .i64 ino,.int .i64 jr]] false):=(st.keep p (Nat.le_refl _)).trans hp
  have h1:=st.p1
  obtain⟨n,h3,hn,hpn,hlt⟩:=st.sl
  have c1:decide (((2+ino / 4+d:Nat):Int)<(sz:Int))=true:=decide_eq_true (by omega)
  have w1:Yp .i64 (((2+ino / 4+d:Nat):Int)+1)=.int .i64 ((2+ino / 4+(d+1):Nat):Int):=by rw[wrap64 (by omega) (by omega)]; congr 1
  have ap:=grow1 (thing 7 a ((2+ino / 4+d:Nat):Int) 0) hn hlt (by rw[List.length_append,Zpj]; omega)
  simp only[thing] at ap
  iterate 10 (first|apply Goes.seq|apply Goes.skip|apply Goes.block|apply Goes.loop|((first|apply Goes.Zm|apply Goes.ops2 fits Hh Zc); · simp (decide:=true) only [go_sem,Zo,H.get_put,H.Zi,Za,Zw,reduceIte,Nat.reduceAdd,Nat.reduceMul,Zv,Z7,asC,Zd,Yf,Ya,h8,h6,h1,h3,hg,c1,w1,ap,Qe,geo1,Jb,U5,U9,cW,Nat.zero_add,bld5,bs1,Lg,Zai,Zh]<;>rfl))
  show Goes K Tryz.prog 73 none (.loop (q47 [1,1,1,1,1,0,1,2,2,1,0,2,1,1,1,2,2])) _ _ _ _
  rw[←Tm]
  refine (ih (d+1) _ _ (by omega) ?_ ?_ ?_).mono ?_
  ·rw[Zv0,←List.append_assoc]
   refine st.grow hpn hlt ?_ ?_
   ·simp (decide:=true) only [Zd,reduceIte,h1]
   ·simp (decide:=true) only [Zd,reduceIte]
    rfl
  ·simp (decide:=true) only [Zd,reduceIte,h6]
  ·simp (decide:=true) only [Zd,reduceIte]
  ·rintro x ds' ts' h' ⟨e1,e2,e3,e4,e5⟩
   refine⟨e1,e2,e3,e4,?_⟩
   rw[e5]
   simp (decide:=true) only [Zd,reduceIte]
theorem all2 {gr sz ino jr:Nat} (F:Fine gr sz ino jr) (p:Nat) (h0:Go.Ev.H) (hp:h0.get p=some (.row 4 [Yn gr sz ino jr] false)):∀ (k a:Nat) (ts:Zu) (h:Go.Ev.H),a+k=gr→AllSt p h0 (jrL jr++Gh sz ino a) ts h→Zk ts 6=.w (.c (.int .i64 a))→Zk ts 5=.w (.c (.int .i64 ((1+a * ino:Nat):Int))) →
  Goes K Tryz.prog 73 none (q47 [1,1,1,1,1,0,1,2]) [] ts h fun x ds' ts' h'=>x=.exit 2∧ds'=[]∧AllSt p h0 (U7 gr sz ino jr) ts' h':=by
 have F':=F
 obtain⟨g1,g2,g3,g4,g5,g6,g7,g8,g9,g10,g11⟩:=F
 intro k
 induction k with
 | zero =>
  intro a ts h ha st h6 h5
  have ea:a=gr:=by omega
  subst ea
  have hg:h.get p=some (.row 4 [[.int .i64 a,.int .i64 sz,.int .i64 ino,.int .i64 jr]] false):=(st.keep p (Nat.le_refl _)).trans hp
  have h1:=st.p1
  have c1:decide ((a:Int)<(a:Int))=false:=decide_eq_false (by omega)
  iterate 6 (first|apply Goes.seq|apply Goes.exit|apply Goes.loop|((first|apply Goes.Zm|apply Goes.ops2 fits Hh Zc); · simp (decide:=true) only [go_sem,Zo,H.get_put,H.Zi,Za,Zw,reduceIte,Nat.reduceAdd,Nat.reduceMul,Zv,Z7,asC,Zd,Yf,Ya,h6,h1,hg,c1,Xu,geo0,Jb,U5,U9,cW,Nat.zero_add]<;>rfl))
  refine⟨rfl,rfl,st.same ?_ ?_⟩
  ·simp (decide:=true) only [Zd,reduceIte]
  ·simp (decide:=true) only [Zd,reduceIte]
 | succ k ih =>
  intro a ts h ha st h6 h5
  have hm:a * sz≤gr * sz:=Nat.mul_le_mul (by omega) (Nat.le_refl _)
  have hm2:(a+1) * sz≤gr * sz:=Nat.mul_le_mul (by omega) (Nat.le_refl _)
  rw[Nat.succ_mul] at hm2
  have hlen:(jrL jr++Gh sz ino a).length=2+jr+a * sz:=by rw[List.length_append,Zcx,Vh g10]
  have hg:h.get p=some (.row 4 [[.int .i64 gr,.int .i64 sz,.int .i64 ino,.int .i64 jr]] false):=(st.keep p (Nat.le_refl _)).trans hp
  have h1:=st.p1
  obtain⟨n,h3,hn,hpn,hlt⟩:=st.sl
  have c1:decide ((a:Int)<(gr:Int))=true:=decide_eq_true (by omega)
  have ap:=grow2 (thing 4 a 0 0) (thing 5 a 1 0) hn hlt (by rw[hlen]; omega)
  simp only[thing] at ap
  iterate 13 (first|apply Goes.seq|apply Goes.skip|apply Goes.block|apply Goes.loop|((first|apply Goes.Zm|apply Goes.ops2 fits Hh Zc); · simp (decide:=true) only [go_sem,Zo,H.get_put,H.Zi,Za,Zw,reduceIte,Nat.reduceAdd,Nat.reduceMul,Zv,Z7,asC,Zd,Yf,Ya,h6,h1,h3,hg,c1,ap,Xu,geo0,Jb,U5,U9,cW,Nat.zero_add,bld4,bld5,bs2,Lg,Zai,Zh]<;>rfl))
  show Goes K Tryz.prog 73 none (q47 [1,1,1,1,1,0,1,2,2,1,0,2,1,0,1]) _ _ _ _
  rw[Xk]
  refine Goes.block ((all4 Hh F' a (by omega) p h0 hp ((jrL jr++Gh sz ino a)++[thing 4 a 0 0,thing 5 a 1 0]) (by rw[List.length_append,hlen]; show _+2≤_; omega) (ino / 4) 0 _ _ (by omega) ?_ ?_ ?_ ?_).mono ?_)
  ·rw[show inL a ino 0=[] from rfl,List.append_nil]
   refine st.grow hpn hlt ?_ ?_
   ·simp (decide:=true) only [Zd,reduceIte,h1]
   ·simp (decide:=true) only [Zd,reduceIte]
    rfl
  ·simp (decide:=true) only [Zd,reduceIte,h6]
  ·simp (decide:=true) only [Zd,reduceIte]
   rfl
  ·simp (decide:=true) only [Zd,reduceIte,h5]
   rfl
  rintro x ds' ts1 h2 ⟨rfl,rfl,st1,f6,f5⟩
  have hg1:h2.get p=some (.row 4 [[.int .i64 gr,.int .i64 sz,.int .i64 ino,.int .i64 jr]] false):=(st1.keep p (Nat.le_refl _)).trans hp
  have f1:=st1.p1
  have q1:Dz .i64 (ino:Int) 4=some (.int .i64 ((ino / 4:Nat):Int)):=by
   show some (Yp .i64 ((ino:Int).tdiv 4))=_
   rw[show (ino:Int).tdiv 4=((ino / 4:Nat):Int) from rfl,wrap64 (by omega) (by omega)]
  have w1:Yp .i64 (2+((ino / 4:Nat):Int))=.int .i64 ((2+ino / 4:Nat):Int):=by rw[wrap64 (by omega) (by omega)]; congr 1
  iterate 2 (first|apply Goes.seq|(apply Goes.ops2 fits Hh Zc; · simp (decide:=true) only [go_sem,Zo,H.get_put,H.Zi,Za,Zw,reduceIte,Nat.reduceAdd,Nat.reduceMul,f1,hg1,q1,w1,Fs,geo2,Jb,U5,U9,cW,Nat.zero_add]<;>rfl))
  show Goes K Tryz.prog 73 none (q47 [1,1,1,1,1,0,1,2,2,1,0,2,1,1,1]) _ _ _ _
  rw[Xi]
  refine Goes.block ((all6 Hh F' a (by omega) p h0 hp (((jrL jr++Gh sz ino a)++[thing 4 a 0 0,thing 5 a 1 0])++inL a ino (ino / 4)) (by rw[List.length_append,List.length_append,hlen,Zi1]; show _+2+_≤_; omega) (sz - (2+ino / 4)) 0 _ _ (by omega) ?_ ?_ ?_).mono ?_)
  ·rw[show daL a ino 0=[] from rfl,List.append_nil]
   refine st1.same ?_ ?_
   ·simp (decide:=true) only [Zd,reduceIte]
   ·simp (decide:=true) only [Zd,reduceIte]
  ·simp (decide:=true) only [Zd,reduceIte,f6]
  ·simp (decide:=true) only [Zd,reduceIte]
   rfl
  rintro x ds' ts2 h3' ⟨rfl,rfl,st2,k6,k5⟩
  have k5':Zk ts2 5=.w (.c (.int .i64 ((1+(a+1) * ino:Nat):Int))):=by
   rw[k5]
   simp (decide:=true) only [Zd,reduceIte,f5]
  have w2:Yp .i64 ((a:Int)+1)=.int .i64 ((a+1:Nat):Int):=by rw[wrap64 (by omega) (by omega)]; congr 1
  (apply Goes.ops2 fits Hh Zc; · simp (decide:=true) only [go_sem,Zo,H.get_put,H.Zi,Za,Zw,reduceIte,Nat.reduceAdd,Nat.reduceMul,k6,w2]<;>rfl)
  show Goes K Tryz.prog 73 none (.loop (q47 [1,1,1,1,1,0,1,2,2])) _ _ _ _
  rw[←Zjo]
  refine ih (a+1) _ _ (by omega) ?_ ?_ ?_
  ·have e:jrL jr++Gh sz ino (a+1)=(jrL jr++Gh sz ino a)++[thing 4 a 0 0,thing 5 a 1 0]++inL a ino (ino / 4)++daL a ino (sz - (2+ino / 4)):=by
    rw[Qc,grL]
    simp only[List.append_assoc]
   rw[e]
   refine st2.same ?_ ?_
   ·simp (decide:=true) only [Zd,reduceIte]
   ·simp (decide:=true) only [Zd,reduceIte]
  ·simp (decide:=true) only [Zd,reduceIte]
  ·simp (decide:=true) only [Zd,reduceIte,k5']
omit Hh in
theorem Zqm (gr sz ino jr:Nat):(U7 gr sz ino jr).all (fun l=>l.all C.flat)=true:=by
 rw[List.all_eq_true]
 intro l hl
 simp only[U7,jrL,Gh,grL,inL,daL,List.mem_append,List.mem_flatMap,List.mem_map,List.mem_cons,List.not_mem_nil,or_false] at hl
 rcases hl with ((h|h)|⟨_,_,h⟩)|⟨_,_,((h|h)|⟨_,_,h⟩)|⟨_,_,h⟩⟩<;>subst h<;>rfl
theorem Zz5 {gr sz ino jr:Nat} (F:Fine gr sz ino jr) (h:Go.Ev.H):Ze K Tryz.prog 47 [.g (Yn gr sz ino jr)] h (.w (.c (.slice h.next 0 (U7 gr sz ino jr).length 4))) (h.new (.row 4 (U7 gr sz ino jr) false)):=by
 refine Ze.tidy ⟨_,Tryz.func47,by kernel_rfl,of_decide_eq_true (by kernel_rfl)⟩ fun tidy=>?_
 suffices hs:Goes K Tryz.prog 73 none (q47 []) [] (Jo 0 [.g (Yn gr sz ino jr)] .nil) h fun x ds ts h1=>∃ n,h.next≤n∧n<h1.next∧h1.get n=some (.row 4 (U7 gr sz ino jr) false)∧(∀ n,n<h.next→h1.get n=h.get n)∧leave K Tryz.f47 (some (.at x ds ts h1))=some (.val (.w (.c (.slice n 0 (U7 gr sz ino jr).length 4))) h1) by
  obtain⟨x,ds,ts,h1,g,n,e1,e2,e3,e4,e5⟩:=hs
  exact (Ze.body fits Hh (by kernel_rfl) (by kernel_rfl) (by kernel_rfl) (by kernel_rfl) rfl g e5).row1 e1 e3 (Zqm _ _ _ _) e2 e4
 have e0:Zk (Jo 0 [.g (Yn gr sz ino jr)] .nil) 0=.w (.g (Yn gr sz ino jr)):=by rw[J9]; rfl
 have lg:(Yn gr sz ino jr).length=4:=rfl
 have rg:Zb 4 [Yn gr sz ino jr] 0 4=some (Yn gr sz ino jr):=rfl
 have nslice:Zae (.slice none 0 0)=some (.w (.c .snil)):=rfl
 have e1:Tryz.f47.results.toList=[.tmp 2]:=rfl
 have mk:=Zz7 Hh F (h.new (.row 4 [Yn gr sz ino jr] false))
 iterate 4 (first|apply Goes.seq|(apply Goes.ops2 fits Hh Zc; · simp (decide:=true) only [go_sem,Zo,H.get_put,H.Zi,Za,Zw,reduceIte,Nat.reduceAdd,Nat.reduceMul,e0,lg,rg,nslice,Zx,Uf,G8,G9,gW,bld1,bs2,Lg]<;>rfl))
 (apply Goes.ops2 fits Hh (Zt Zc mk); · simp (decide:=true) only [go_sem,Zo,H.get_put,H.Zi,Za,Zw,reduceIte,Nat.reduceAdd,Nat.reduceMul,Zy,e0,lg,rg,nslice,Zx,Uf,G8,G9,gW,bld1,bs2,Lg]<;>rfl)
 iterate 8 (first|apply Goes.seq|apply Goes.skip|apply Goes.block|((first|apply Goes.Zm|apply Goes.ops2 fits Hh Zc); · simp (decide:=true) only [go_sem,Zo,H.get_put,H.Zi,Za,Zw,reduceIte,Nat.reduceAdd,Nat.reduceMul,Zv,Z7,asC,Zd,Yf,Ya,e0,lg,rg,nslice,Zx,Uf,G8,G9,gW,bld1,bs2,Lg]<;>rfl))
 show Goes K Tryz.prog 73 none (q47 [1,1,1,0,1,2]) _ _ _ _
 have hp:(h.new (.row 4 [Yn gr sz ino jr] false)).get h.next=some (.row 4 [Yn gr sz ino jr] false):=by rw[H.Zi,if_pos rfl]
 refine (all1 Hh F h.next (h.new (.row 4 [Yn gr sz ino jr] false)) hp jr 0 _ _ (by omega) ⟨?_,⟨h.next+1,?_,?_,?_,?_⟩,?_,?_⟩ ?_).mono ?_
 ·simp (decide:=true) only [Zd,reduceIte]
 ·simp (decide:=true) only [Zd,reduceIte,H.Zg]
  rfl
 ·rw[H.Zi,H.Zg,if_pos rfl]
  rfl
 ·omega
 ·rw[H.Zg,H.Zg]; omega
 ·simp only[H.Zg]; omega
 ·intro m hm
  rw[H.Zi,H.Zg,if_neg (by omega)]
 ·simp (decide:=true) only [Zd,reduceIte]
  rfl
 rintro x ds' ts1 h1 ⟨rfl,rfl,st1⟩
 iterate 6 (first|apply Goes.seq|apply Goes.block|(apply Goes.ops2 fits Hh Zc; · simp (decide:=true) only [go_sem,Zo,H.get_put,H.Zi,Za,Zw,reduceIte,Nat.reduceAdd,Nat.reduceMul]<;>rfl))
 show Goes K Tryz.prog 73 none (q47 [1,1,1,1,1,0,1,2]) _ _ _ _
 refine (all2 Hh F h.next (h.new (.row 4 [Yn gr sz ino jr] false)) hp gr 0 _ _ (by omega) ?_ ?_ ?_).mono ?_
 ·rw[show Gh sz ino 0=[] from rfl,List.append_nil]
  refine st1.same ?_ ?_
  ·simp (decide:=true) only [Zd,reduceIte]
  ·simp (decide:=true) only [Zd,reduceIte]
 ·simp (decide:=true) only [Zd,reduceIte]
  rfl
 ·simp (decide:=true) only [Zd,reduceIte]
  rw[Nat.zero_mul]
  rfl
 rintro x ds' ts2 h2 ⟨rfl,rfl,st2⟩
 obtain⟨n,f3,hn,hpn,hlt⟩:=st2.sl
 iterate 3 (first|apply Goes.seq|apply Goes.ret|(apply Goes.ops2 fits Hh Zc; · simp (decide:=true) only [go_sem,Zo,H.get_put,H.Zi,Za,Zw,reduceIte,Nat.reduceAdd,Nat.reduceMul,f3]<;>rfl))
 refine⟨n,by omega,hlt,hn,fun m hm=>?_,?_⟩
 ·rw[st2.keep m (by omega),H.Zi,if_neg (by omega)]
 ·simp (decide:=true) only [Oa,Y8,finish,e1,Y5,evalW,Z7,asW,Zd,reduceIte,J5]
end
noncomputable def q48 (p:List Nat):Code:=piece p (Uq Tryz.f48)
theorem Wt:q48 [1,1,1,0,1,2]=.loop (q48 [1,1,1,0,1,2,2]):=by kernel_rfl
section
variable (Hh:Hearts K Tryz.prog)
include Hh
omit Hh in
theorem Y1:K.types.get 117=some ti117:=by kernel_rfl
omit Hh in
theorem Jf:ti117.desc=.slice 125:=rfl
omit Hh in
theorem Fy:Zn K 125 0=some (0,ti5):=by kernel_rfl
omit Hh in
theorem Fz:Zn K 125 1=some (1,ti3):=by kernel_rfl
omit Hh in
theorem U1:Zn K 125 3=some (3,ti3):=by kernel_rfl
omit Hh in
theorem Be (n off len sz:Nat):Yu K 117 (.c (.slice n off len sz))=true:=by unfold Yu; rw[Y1]; rfl
def isD:List C→Bool
 | [.int _ k,.int _ a,_,_]=>k == 7&&a == 0
 | _=>false
def Ol (L:List (List C)):Nat:=(L.filter isD).length
omit Hh in
theorem Zm6 (L:List (List C)) (x:List C):Ol (L++[x])=Ol L+if isD x=true then 1 else 0:=by
 unfold Ol
 rw[List.filter_append,List.length_append]
 congr 1
 cases e:isD x<;>simp [e]
def Zim (L:List (List C)):Prop:=∀ x∈L,∃ k a b c:Int,x=thing k a b c
omit Hh in
theorem Vk (gr sz ino jr:Nat):Zim (U7 gr sz ino jr):=by
 intro l hl
 simp only[U7,jrL,Gh,grL,inL,daL,List.mem_append,List.mem_flatMap,List.mem_map,List.mem_cons,List.not_mem_nil,or_false] at hl
 rcases hl with ((h|h)|⟨_,_,h⟩)|⟨_,_,((h|h)|⟨_,_,h⟩)|⟨_,_,h⟩⟩<;>subst h<;>exact⟨_,_,_,_,rfl⟩
theorem data0 (n:Nat) (L:List (List C)) (ro:Bool) (h:Go.Ev.H) (hL:Zim L) (hn:h.get n=some (.row 4 L ro)) (hlen:L.length≤4000):∀ (k i:Nat) (ts:Zu),i+k=L.length→Zk ts 3=.w (.c (.slice n 0 L.length 4))→Zk ts 5=.w (.c (.int .i64 i))→Zk ts 4=.w (.c (.int .i64 (Ol (L.take i):Nat))) →
  Goes K Tryz.prog 31 none (q48 [1,1,1,0,1,2]) [] ts h fun x ds' ts' h'=>x=.exit 0∧ds'=[]∧h'=h∧Zk ts' 4=.w (.c (.int .i64 (Ol L:Nat))):=by
 intro k
 induction k with
 | zero =>
  intro i ts hi h3 h5 h4
  have ei:i=L.length:=by omega
  subst ei
  rw[List.take_length] at h4
  have c1:decide ((L.length:Int)<(L.length:Int))=false:=decide_eq_false (by omega)
  iterate 6 (first|apply Goes.seq|apply Goes.exit|apply Goes.loop|((first|apply Goes.Zm|apply Goes.ops2 fits Hh Zc); · simp (decide:=true) only [go_sem,Zo,H.get_put,H.Zi,Za,Zw,reduceIte,Nat.reduceAdd,Nat.reduceMul,Zv,Z7,asC,Zd,Yf,Ya,h3,h5,c1,Zh,Ye,Be]<;>rfl))
  refine⟨rfl,rfl,rfl,?_⟩
  simp (decide:=true) only [Zd,reduceIte,h4]
 | succ k ih =>
  intro i ts hi h3 h5 h4
  have hlt:i<L.length:=by omega
  obtain⟨kd,a,b,c,hx⟩:=hL L[i] (List.getElem_mem hlt)
  have hx':L[i]? = some (thing kd a b c):=by rw[List.getElem?_eq_getElem hlt,hx]
  have r0:read1 4 L (i * 4)=some (.int .u8 kd):=Bv (sz:=4) (j:=0) (by omega) hx'
  have r1:read1 4 L (i * 4+1)=some (.int .i64 a):=Bv (sz:=4) (j:=1) (by omega) hx'
  have c1:decide ((i:Int)<(L.length:Int))=true:=decide_eq_true (by omega)
  have b1:Nat.blt i L.length=true:=Uy hlt
  have w1:Yp .i64 ((i:Int)+1)=.int .i64 ((i+1:Nat):Int):=by rw[wrap64 (by omega) (by omega)]; congr 1
  have hle:Ol (L.take i)≤4000:=Nat.le_trans (List.length_filter_le _ _) (by rw[List.length_take]; omega)
  have w2:Yp .i64 (((Ol (L.take i):Nat):Int)+1)=.int .i64 ((Ol (L.take i)+1:Nat):Int):=by rw[wrap64 (by omega) (by omega)]; congr 1
  have hs:Ol (L.take (i+1))=Ol (L.take i)+if (kd == 7&&a == 0)=true then 1 else 0:=by
   rw[List.take_add_one,hx']
   exact Zm6 _ _
  by_cases h7:kd=7
  ·have e7:(kd == 7)=true:=by rw[h7]; rfl
   by_cases ha:a=0
   ·have ea:(a == 0)=true:=by rw[ha]; rfl
    rw[e7,ea] at hs
    iterate 13 (first|apply Goes.seq|apply Goes.skip|apply Goes.block|apply Goes.loop|((first|apply Goes.Zm|apply Goes.ops2 fits Hh Zc); · simp (decide:=true) only [go_sem,Zo,H.get_put,H.Zi,Za,Zw,reduceIte,Nat.reduceAdd,Nat.reduceMul,Zv,Z7,asC,Zd,Yf,Ya,h3,h5,h4,hn,c1,b1,r0,r1,w1,w2,e7,ea,Zh,Ye,Be,Y1,Jf,Jd,Jy,Fy,Fz,Ec,Jb,Mj,U5,Vb,U9,cW,Nat.zero_add,Nat.add_zero,Nat.beq_refl,beq_self_eq_true]<;>rfl))
    show Goes K Tryz.prog 31 none (.loop (q48 [1,1,1,0,1,2,2])) _ _ _ _
    rw[←Wt]
    refine ih (i+1) _ (by omega) ?_ ?_ ?_
    ·simp (decide:=true) only [Zd,reduceIte,h3]
    ·simp (decide:=true) only [Zd,reduceIte]
    ·simp (decide:=true) only [Zd,reduceIte,hs]<;>rfl
   ·have ea:(a == 0)=false:=by simpa using ha
    rw[e7,ea] at hs
    iterate 13 (first|apply Goes.seq|apply Goes.skip|apply Goes.block|apply Goes.loop|((first|apply Goes.Zm|apply Goes.ops2 fits Hh Zc); · simp (decide:=true) only [go_sem,Zo,H.get_put,H.Zi,Za,Zw,reduceIte,Nat.reduceAdd,Nat.reduceMul,Zv,Z7,asC,Zd,Yf,Ya,h3,h5,h4,hn,c1,b1,r0,r1,w1,w2,e7,ea,Zh,Ye,Be,Y1,Jf,Jd,Jy,Fy,Fz,Ec,Jb,Mj,U5,Vb,U9,cW,Nat.zero_add,Nat.add_zero,Nat.beq_refl,beq_self_eq_true]<;>rfl))
    show Goes K Tryz.prog 31 none (.loop (q48 [1,1,1,0,1,2,2])) _ _ _ _
    rw[←Wt]
    refine ih (i+1) _ (by omega) ?_ ?_ ?_
    ·simp (decide:=true) only [Zd,reduceIte,h3]
    ·simp (decide:=true) only [Zd,reduceIte]
    ·simp (decide:=true) only [Zd,reduceIte,hs,h4]<;>rfl
  ·have e7:(kd == 7)=false:=by simpa using h7
   rw[e7] at hs
   iterate 13 (first|apply Goes.seq|apply Goes.skip|apply Goes.block|apply Goes.loop|((first|apply Goes.Zm|apply Goes.ops2 fits Hh Zc); · simp (decide:=true) only [go_sem,Zo,H.get_put,H.Zi,Za,Zw,reduceIte,Nat.reduceAdd,Nat.reduceMul,Zv,Z7,asC,Zd,Yf,Ya,h3,h5,h4,hn,c1,b1,r0,r1,w1,w2,e7,Zh,Ye,Be,Y1,Jf,Jd,Jy,Fy,Fz,Ec,Jb,Mj,U5,Vb,U9,cW,Nat.zero_add,Nat.add_zero,Nat.beq_refl,beq_self_eq_true]<;>rfl))
   show Goes K Tryz.prog 31 none (.loop (q48 [1,1,1,0,1,2,2])) _ _ _ _
   rw[←Wt]
   refine ih (i+1) _ (by omega) ?_ ?_ ?_
   ·simp (decide:=true) only [Zd,reduceIte,h3]
   ·simp (decide:=true) only [Zd,reduceIte]
   ·simp (decide:=true) only [Zd,reduceIte,hs,h4]<;>rfl
theorem Zv1 {gr sz ino jr:Nat} (F:Fine gr sz ino jr) (h:Go.Ev.H):Ze K Tryz.prog 48 [.g (Yn gr sz ino jr)] h (.w (.c (.int .i64 (Ol (U7 gr sz ino jr):Nat)))) h:=by
 refine Ze.tidy ⟨_,Tryz.func48,by kernel_rfl,of_decide_eq_true (by kernel_rfl)⟩ fun tidy=>?_
 suffices hs:Goes K Tryz.prog 31 none (q48 []) [] (Jo 0 [.g (Yn gr sz ino jr)] .nil) h fun x ds ts h1=>(∀ n,n<h.next→h1.get n=h.get n)∧leave K Tryz.f48 (some (.at x ds ts h1))=some (.val (.w (.c (.int .i64 (Ol (U7 gr sz ino jr):Nat)))) h1) by
  obtain⟨x,ds,ts,h1,g,e2,e3⟩:=hs
  exact (Ze.body fits Hh (by kernel_rfl) (by kernel_rfl) (by kernel_rfl) (by kernel_rfl) rfl g e3).quiet rfl e2
 have e0:Zk (Jo 0 [.g (Yn gr sz ino jr)] .nil) 0=.w (.g (Yn gr sz ino jr)):=by rw[J9]; rfl
 have lg:(Yn gr sz ino jr).length=4:=rfl
 have rg:Zb 4 [Yn gr sz ino jr] 0 4=some (Yn gr sz ino jr):=rfl
 have e1:Tryz.f48.results.toList=[.tmp 2]:=rfl
 have mk:=Zz5 Hh F (h.new (.row 4 [Yn gr sz ino jr] false))
 have hlen:(U7 gr sz ino jr).length≤4000:=by
  rw[U7,List.length_append,Zcx,Vh F.fit]
  have:=F.all
  omega
 iterate 3 (first|apply Goes.seq|(apply Goes.ops2 fits Hh Zc; · simp (decide:=true) only [go_sem,Zo,H.get_put,H.Zi,Za,Zw,reduceIte,Nat.reduceAdd,Nat.reduceMul,e0,lg,rg,Zx,Uf,G8,G9,gW]<;>rfl))
 (apply Goes.ops2 fits Hh (Zt Zc mk); · simp (decide:=true) only [go_sem,Zo,H.get_put,H.Zi,Za,Zw,reduceIte,Nat.reduceAdd,Nat.reduceMul,Zy,e0,lg,rg,Zx,Uf,G8,G9,gW]<;>rfl)
 iterate 6 (first|apply Goes.seq|apply Goes.block|(apply Goes.ops2 fits Hh Zc; · simp (decide:=true) only [go_sem,Zo,H.get_put,H.Zi,Za,Zw,reduceIte,Nat.reduceAdd,Nat.reduceMul,e0,lg,rg,Zx,Uf,G8,G9,gW]<;>rfl))
 show Goes K Tryz.prog 31 none (q48 [1,1,1,0,1,2]) _ _ _ _
 refine (data0 Hh (h.next+1) (U7 gr sz ino jr) false _ (Vk _ _ _ _) (by rw[H.Zi,H.Zg,if_pos rfl]) hlen (U7 gr sz ino jr).length 0 _ (by omega) ?_ ?_ ?_).mono ?_
 ·simp (decide:=true) only [Zd,reduceIte,H.Zg]
 ·simp (decide:=true) only [Zd,reduceIte]
  rfl
 ·simp (decide:=true) only [Zd,reduceIte]
  rfl
 rintro x ds' ts1 h1 ⟨rfl,rfl,rfl,f4⟩
 iterate 3 (first|apply Goes.seq|apply Goes.ret|(apply Goes.ops2 fits Hh Zc; · simp (decide:=true) only [go_sem,Zo,H.get_put,H.Zi,Za,Zw,reduceIte,Nat.reduceAdd,Nat.reduceMul,f4]<;>rfl))
 refine⟨fun m hm=>?_,?_⟩
 ·rw[H.Zi,H.Zg,if_neg (by omega),H.Zi,if_neg (by omega)]
 ·simp (decide:=true) only [Oa,Y8,finish,e1,Y5,evalW,Z7,asW,Zd,reduceIte,J5]
end
end Go.Proofs.YtgikjeaipmeclaaGreatDoor
