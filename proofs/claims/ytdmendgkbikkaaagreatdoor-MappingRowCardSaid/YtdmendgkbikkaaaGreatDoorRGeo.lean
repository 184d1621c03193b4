/- quernref04.Block, on the evaluator's level: bits as a block. -/
import Derived.Test.YtdmendgkbikkaaaGreatDoorSli
import Derived.Test.YtdmendgkbikkaaaGreatDoorEvC
import Derived.Test.YtdmendgkbikkaaaGreatDoorWhat3
set_option linter.unusedSimpArgs false
set_option linter.unusedVariables false
set_option linter.unusedSectionVars false
set_option maxRecDepth 100000
namespace Go.Proofs.YtdmendgkbikkaaaGreatDoor
open Go.Ev
def J3 (f:Nat→Bool):List (List C):=(List.range 2048).map fun i=>[.bool (f i)]
def byteOf (f:Nat→Bool) (i:Nat):Nat→Nat
 | 0=>0
 | k+1=>2 * byteOf f i k+(f (8 * i+(7 - k))).toNat
theorem Zk9 (f:Nat→Bool) (i:Nat) (h:i<2048):read1 1 (J3 f) i=some (.bool (f i)):=by
 simp [J3,h,read1,Nat.mod_one]
theorem Zha (f:Nat→Bool) (i k:Nat):byteOf f i k<2 ^ k:=by
 induction k with
 | zero=>simp [byteOf]
 | succ k ih =>
  have:(f (8 * i+(7 - k))).toNat≤1:=by cases f (8 * i+(7 - k))<;>simp
  rw[byteOf,Nat.pow_succ]
  omega
noncomputable def q96 (p:List Nat):Code:=piece p (Ut Tryz.f96)
theorem Ztf:q96 [1,1,0,1,2]=.loop (q96 [1,1,0,1,2,2]):=by kernel_rfl
theorem Zcb:q96 [1,1,0,1,2,2,1,0,2,1,0,1]=.block 2 (q96 [1,1,0,1,2,2,1,0,2,1,0,1,2]):=by kernel_rfl
theorem Nb:q96 [1,1,0,1,2,2,1,0,2,1,0,1,2]=.loop (q96 [1,1,0,1,2,2,1,0,2,1,0,1,2,2]):=by kernel_rfl
section
variable (Hh:Hearts K Tryz.prog)
include Hh
theorem inner (f:Nat→Bool) (nb i:Nat) (hi:i<256) (ro:Bool) (h:Go.Ev.H) (hb:h.get nb=some (.row 1 (J3 f) ro)):∀ (j:Nat) (ts:Zw),j≤8→Zi ts 0=.w (.c (.slice nb 0 2048 1))→Zi ts 4=.w (.c (.int .i64 i))→Zi ts 5=.w (.c (.int .i64 (byteOf f i (8 - j))))→Zi ts 6=.w (.c (.int .i64 ((j:Int) - 1))) →
  Ya 31 none (q96 [1,1,0,1,2,2,1,0,2,1,0,1,2]) [] ts h fun x ds' ts' h'=>x=.exit 2∧ds'=[]∧h'=h∧Zi ts' 5=.w (.c (.int .i64 (byteOf f i 8)))∧∀ s,s≤4→Zi ts' s=Zi ts s:=by
 intro j
 induction j with
 | zero =>
  intro ts _ h0 h4 h5 h6
  iterate 6 (first|apply Zp|apply Oe|apply Yt|((first|apply Goes.Zn|apply Goes.ops2 fits Hh Za); · simp (decide:=true) only [go_sem,Zl,H.get_put,H.Zd,Ze,Zz,reduceIte,Nat.reduceAdd,Nat.reduceMul,Zx,Z0,asC,Zb,Ye,Z7,h6]<;>rfl))
  refine⟨rfl,rfl,rfl,?_,fun s hs=>?_⟩
  ·simp (decide:=true) only [Zb,reduceIte,h5]
  ·simp (decide:=true) only [Y6 hs]
 | succ j ih =>
  intro ts hj h0 h4 h5 h6
  have e6:((j+1:Nat):Int) - 1=(j:Int):=by omega
  rw[e6] at h6
  have hlt:=Zha f i (8 - (j+1))
  have hp:2 ^ (8 - (j+1))≤2 ^ 8:=Nat.pow_le_pow_right (by omega) (by omega)
  have hstep:byteOf f i (8 - j)=2 * byteOf f i (8 - (j+1))+(f (8 * i+j)).toNat:=by
   have e:8 - j=(8 - (j+1))+1:=by omega
   rw[e,byteOf]
   congr 4
   omega
  obtain⟨x,hx⟩:∃ x,byteOf f i (8 - (j+1))=x:=⟨_,rfl⟩
  rw[hx] at h5 hlt hstep
  have d1:decide ((j:Int) ≥ 0)=true:=decide_eq_true (by omega)
  have w1:Yq .i64 (2 * (x:Int))=.int .i64 (2 * x):=wrap64 (by omega) (by omega)
  have w2:Yq .i64 (8 * (i:Int))=.int .i64 ((8 * i:Nat):Int):=by rw[wrap64 (by omega) (by omega)]; congr 1
  have w3:Yq .i64 (((8 * i:Nat):Int)+(j:Int))=.int .i64 ((8 * i+j:Nat):Int):=by rw[wrap64 (by omega) (by omega)]; congr 1
  have w4:Yq .i64 (2 * (x:Int)+1)=.int .i64 (2 * x+1):=wrap64 (by omega) (by omega)
  have w5:Yq .i64 ((j:Int) - 1)=.int .i64 ((j:Int) - 1):=wrap64 (by omega) (by omega)
  have b1:Nat.blt (8 * i+j) 2048=true:=U6 (by omega)
  have r1:=Zk9 f (8 * i+j) (by omega)
  have n1:Ux (some (.int .i64 ((8 * i+j:Nat):Int)))=some (8 * i+j):=rfl
  cases hf:f (8 * i+j) with
  | true =>
   rw[hf] at r1 hstep
   iterate 15 (first|apply Zp|apply Z6|apply Yk|apply Yt|((first|apply Goes.Zn|apply Goes.ops2 fits Hh Za); · simp (decide:=true) only [go_sem,Zl,H.get_put,H.Zd,Ze,Zz,reduceIte,Nat.reduceAdd,Nat.reduceMul,Zx,Z0,asC,Zb,Ye,Z7,h0,h4,h5,h6,d1,w1,w2,w3,w4,w5,b1,r1,n1,hb,Nh,Xc,Vh,Zc4,Z1w,Nat.beq_refl,Nat.zero_add,Nat.mul_one,cW]<;>rfl))
   show Ya 31 none (.loop (q96 [1,1,0,1,2,2,1,0,2,1,0,1,2,2])) _ _ _ _
   rw[←Nb]
   refine (ih _ (by omega) ?_ ?_ ?_ ?_).mono ?_
   ·simp (decide:=true) only [Zb,reduceIte,h0]
   ·simp (decide:=true) only [Zb,reduceIte,h4]
   ·simp (decide:=true) only [Zb,reduceIte,hstep,Bool.toNat_true]
    rfl
   ·simp (decide:=true) only [Zb,reduceIte]
   ·rintro y ds' ts' h' ⟨e1,e2,e3,e4,e5⟩
    refine⟨e1,e2,e3,e4,fun s hs=>?_⟩
    rw[e5 s hs]
    simp (decide:=true) only [Y6 hs]
  | false =>
   rw[hf] at r1 hstep
   iterate 15 (first|apply Zp|apply Z6|apply Yk|apply Yt|((first|apply Goes.Zn|apply Goes.ops2 fits Hh Za); · simp (decide:=true) only [go_sem,Zl,H.get_put,H.Zd,Ze,Zz,reduceIte,Nat.reduceAdd,Nat.reduceMul,Zx,Z0,asC,Zb,Ye,Z7,h0,h4,h5,h6,d1,w1,w2,w3,w4,w5,b1,r1,n1,hb,Nh,Xc,Vh,Zc4,Z1w,Nat.beq_refl,Nat.zero_add,Nat.mul_one,cW]<;>rfl))
   show Ya 31 none (.loop (q96 [1,1,0,1,2,2,1,0,2,1,0,1,2,2])) _ _ _ _
   rw[←Nb]
   refine (ih _ (by omega) ?_ ?_ ?_ ?_).mono ?_
   ·simp (decide:=true) only [Zb,reduceIte,h0]
   ·simp (decide:=true) only [Zb,reduceIte,h4]
   ·simp (decide:=true) only [Zb,reduceIte,hstep,Bool.toNat_false]
    rfl
   ·simp (decide:=true) only [Zb,reduceIte]
   ·rintro y ds' ts' h' ⟨e1,e2,e3,e4,e5⟩
    refine⟨e1,e2,e3,e4,fun s hs=>?_⟩
    rw[e5 s hs]
    simp (decide:=true) only [Y6 hs]
def Wj (f:Nat→Bool) (i:Nat):List C:=(List.range 256).map fun t=>.int .u8 (if t<i then byteOf f t 8 else 0:Nat)
def pack (f:Nat→Bool):List C:=(List.range 256).map fun t=>.int .u8 (byteOf f t 8:Nat)
omit Hh in
theorem Ztl (f:Nat→Bool):Wj f 256=pack f:=by
 unfold Wj pack
 refine List.map_congr_left fun t ht=>?_
 rw[if_pos (List.mem_range.1 ht)]
omit Hh in
theorem Ztm (f:Nat→Bool):Wj f 0=List.replicate 256 (.int .u8 0):=by
 unfold Wj
 refine List.ext_getElem (by rw[List.length_map,List.length_range,List.length_replicate]) fun t h1 h2=>?_
 rw[List.getElem_replicate,List.getElem_map,if_neg (by omega)]
 rfl
omit Hh in
theorem Zmt (f:Nat→Bool) (i:Nat):(Wj f i).length=256:=by simp [Wj]
omit Hh in
theorem Zo2 (f:Nat→Bool) (i:Nat) (hi:i<256):Z9 256 [Wj f i] i [.int .u8 (byteOf f i 8:Nat)]=some [Wj f (i+1)]:=by
 have e1:i / 256=0:=by omega
 have e2:i % 256=i:=by omega
 have e3:Nat.blt i (Wj f i).length=true:=U6 (by rw[Zmt]; exact hi)
 simp only[Z9,e1,e2,List.getElem?_cons_zero,e3,cond_true,List.set_cons_zero]
 congr 2
 refine List.ext_getElem (by simp [Wj]) fun t h1 h2=>?_
 simp only[List.getElem_set]
 simp only[Wj,List.getElem_map,List.getElem_range]
 by_cases e:i=t
 ·subst e
  simp
 ·rw[if_neg e]
  congr 2
  by_cases h3:t<i
  ·rw[if_pos h3,if_pos (by omega)]
  ·rw[if_neg h3,if_neg (by omega)]
omit Hh in
theorem Zs8 (f:Nat→Bool):(V.w (.g (pack f))).flat=true:=by
 simp only[V.flat,W.flat,List.all_eq_true]
 intro x hx
 simp only[pack,List.mem_map] at hx
 obtain⟨t,_,rfl⟩:=hx
 rfl
theorem outer (f:Nat→Bool) (nb r3:Nat) (hne:nb≠r3) (ro:Bool):∀ (k i:Nat) (ts:Zw) (h:Go.Ev.H),i+k=256→h.get nb=some (.row 1 (J3 f) ro)→h.get r3=some (.row 256 [Wj f i] false)→Zi ts 0=.w (.c (.slice nb 0 2048 1))→Zi ts 3=.w (.c (.ptr r3 0))→Zi ts 4=.w (.c (.int .i64 i)) →
  Ya 31 none (q96 [1,1,0,1,2]) [] ts h fun x ds' ts' h'=>x=.exit 0∧ds'=[]∧h'.next=h.next∧(∀ n,n≠r3→h'.get n=h.get n)∧h'.get r3=some (.row 256 [pack f] false)∧∀ s,s≤3→Zi ts' s=Zi ts s:=by
 intro k
 induction k with
 | zero =>
  intro i ts h hi hb hr h0 h3 h4
  have ei:i=256:=by omega
  subst ei
  iterate 6 (first|apply Zp|apply Oe|apply Yt|((first|apply Goes.Zn|apply Goes.ops2 fits Hh Za); · simp (decide:=true) only [go_sem,Zl,H.get_put,H.Zd,Ze,Zz,reduceIte,Nat.reduceAdd,Nat.reduceMul,Zx,Z0,asC,Zb,Ye,Z7,h4]<;>rfl))
  refine⟨rfl,rfl,rfl,fun _ _=>rfl,by rw[hr,Ztl],fun s hs=>?_⟩
  simp (decide:=true) only [Y6 hs]
 | succ k ih =>
  intro i ts h hi hb hr h0 h3 h4
  have d1:decide ((i:Int)<256)=true:=decide_eq_true (by omega)
  iterate 13 (first|apply Zp|apply Z6|apply Yk|apply Yt|((first|apply Goes.Zn|apply Goes.ops2 fits Hh Za); · simp (decide:=true) only [go_sem,Zl,H.get_put,H.Zd,Ze,Zz,reduceIte,Nat.reduceAdd,Nat.reduceMul,Zx,Z0,asC,Zb,Ye,Z7,h4,d1]<;>rfl))
  show Ya 31 none (q96 [1,1,0,1,2,2,1,0,2,1,0,1]) _ _ _ _
  rw[Zcb]
  refine Yk ((inner Hh f nb i (by omega) ro h hb 8 _ (by omega) ?_ ?_ ?_ ?_).mono ?_)
  ·simp (decide:=true) only [Zb,reduceIte,h0]
  ·simp (decide:=true) only [Zb,reduceIte,h4]
  ·simp (decide:=true) only [Zb,reduceIte]
   rfl
  ·simp (decide:=true) only [Zb,reduceIte]
   rfl
  rintro x ds' ts' h' ⟨rfl,rfl,rfl,e5,elow⟩
  have f0:Zi ts' 0=.w (.c (.slice nb 0 2048 1)):=by rw[elow 0 (by decide)]; simp (decide:=true) only [Zb,reduceIte,h0]
  have f2:Zi ts' 2=Zi ts 2:=by rw[elow 2 (by decide)]; simp (decide:=true) only [Zb,reduceIte]
  have f1:Zi ts' 1=Zi ts 1:=by rw[elow 1 (by decide)]; simp (decide:=true) only [Zb,reduceIte]
  have f3:Zi ts' 3=.w (.c (.ptr r3 0)):=by rw[elow 3 (by decide)]; simp (decide:=true) only [Zb,reduceIte,h3]
  have f4:Zi ts' 4=.w (.c (.int .i64 i)):=by rw[elow 4 (by decide)]; simp (decide:=true) only [Zb,reduceIte,h4]
  have hlt:=Zha f i 8
  have w8:Yq .u8 (byteOf f i 8:Int)=.int .u8 (byteOf f i 8):=by rw[Zxs]; congr 1; omega
  have w9:Yq .i64 ((i:Int)+1)=.int .i64 ((i+1:Nat):Int):=by rw[wrap64 (by omega) (by omega)]; congr 1
  have b1:Nat.blt i 256=true:=U6 (by omega)
  have wr:=Zo2 f i (by omega)
  show Ya 31 none (q96 [1,1,0,1,2,2,1,0,2,1,1]) _ _ _ _
  iterate 2 ((apply Goes.ops2 fits Hh Za; · simp (decide:=true) only [go_sem,Zl,H.get_put,H.Zd,Ze,Zz,reduceIte,Nat.reduceAdd,Nat.reduceMul,f0,f2,f3,f4,e5,w8,w9,b1,wr,hr,Ug,Ei,Ji,Z2r,Z42,Ng,Nat.beq_refl,Nat.zero_add,Nat.mul_one]<;>rfl))
  show Ya 31 none (.loop (q96 [1,1,0,1,2,2])) _ _ _ _
  rw[←Ztf]
  refine (ih (i+1) _ _ (by omega) ?_ ?_ ?_ ?_ ?_).mono ?_
  ·rw[H.get_put,if_neg hne]; exact hb
  ·rw[H.get_put,if_pos rfl]
  ·simp (decide:=true) only [Zb,reduceIte,f0]
  ·simp (decide:=true) only [Zb,reduceIte,f3]
  ·simp (decide:=true) only [Zb,reduceIte]
  ·rintro x ds' ts'' h'' ⟨g1,g2,g3,g4,g5,g6⟩
   refine⟨g1,g2,g3,fun n hn=>?_,g5,fun s hs=>?_⟩
   ·rw[g4 n hn,H.get_put,if_neg hn]
   ·rw[g6 s hs]
    simp (decide:=true) only [Y6 hs]
    rw[elow s (Nat.le_trans hs (by decide))]
    simp (decide:=true) only [Y6 hs]
theorem Q0 (f:Nat→Bool) (nb:Nat) (ro:Bool) (h:Go.Ev.H) (hb:h.get nb=some (.row 1 (J3 f) ro)):Zg 96 [.c (.slice nb 0 2048 1)] h (.w (.g (pack f))) h:=by
 refine Zv.tidy ⟨_,Tryz.func96,by kernel_rfl,of_decide_eq_true (by kernel_rfl)⟩ fun tidy=>?_
 have hnb:=tidy nb _ hb
 have z54:ti73.zero.cells=Wj f 0:=by rw[Ztm]; rfl
 have e0:Zi (Jj 0 [.c (.slice nb 0 2048 1)] .nil) 0=.w (.c (.slice nb 0 2048 1)):=by rw[Um]; rfl
 suffices hs:∃ h',(∀ n,n<h.next→h'.get n=h.get n)∧Zg 96 [.c (.slice nb 0 2048 1)] h (.w (.g (pack f))) h' by
  obtain⟨h',e2,c⟩:=hs
  exact c.quiet (Zs8 f) e2
 suffices hs:Ya 31 none (q96 []) [] (Jj 0 [.c (.slice nb 0 2048 1)] .nil) h fun x ds ts h1=>(∀ n,n<h.next→h1.get n=h.get n)∧leave K Tryz.f96 (some (.at x ds ts h1))=some (.val (.w (.g (pack f))) h1) by
  obtain⟨x,ds,ts,h1,g,e2,e3⟩:=hs
  exact⟨h1,e2,Zv.body fits Hh (by kernel_rfl) (by kernel_rfl) (by kernel_rfl) (by kernel_rfl) rfl g e3⟩
 iterate 8 (first|apply Zp|apply Yk|(apply Goes.ops2 fits Hh Za; · simp (decide:=true) only [go_sem,Zl,H.get_put,H.Zd,Ze,Zz,reduceIte,Nat.reduceAdd,Nat.reduceMul,e0,Ug,Oo,z54]<;>rfl))
 show Ya 31 none (q96 [1,1,0,1,2]) _ _ _ _
 refine (outer Hh f nb (h.next+1) (by omega) ro 256 0 _ _ rfl ?_ ?_ ?_ ?_ ?_).mono ?_
 ·rw[H.Zd,H.Zc,if_neg (by omega),H.Zd,if_neg (by omega)]; exact hb
 ·rw[H.Zd,H.Zc,if_pos rfl]
 ·simp (decide:=true) only [Zb,reduceIte,e0]
 ·simp (decide:=true) only [Zb,reduceIte,H.Zc]
 ·simp (decide:=true) only [Zb,reduceIte]
  rfl
 rintro x ds' ts' h' ⟨rfl,rfl,hn,hk,hr,elow⟩
 have f2:Zi ts' 2=.w (.c (.ptr h.next 0)):=by rw[elow 2 (by decide)]; simp (decide:=true) only [Zb,reduceIte]
 have f3:Zi ts' 3=.w (.c (.ptr (h.next+1) 0)):=by rw[elow 3 (by decide)]; simp (decide:=true) only [Zb,reduceIte,H.Zc]
 have hr2:h'.get h.next=some (.row 256 [Wj f 0] false):=by
  rw[hk h.next (by omega),H.Zd,H.Zc,if_neg (by omega),H.Zd,if_pos rfl]
 have rd:Zm 256 [pack f] 0 256=some (pack f):=by
  have e:(pack f).length=256:=by simp [pack]
  have:=Xa (l:=pack f) (by omega)
  rwa [e] at this
 have wr:Z9 256 [Wj f 0] 0 (pack f)=some [pack f]:=by
  have e:(pack f).length=256:=by simp [pack]
  have:=Ta (l:=Wj f 0) (l':=pack f) (by omega) (by rw[Zmt,e])
  rwa [e] at this
 have lp:(pack f).length=256:=by simp [pack]
 show Ya 31 none (q96 [1,1,1]) _ _ _ _
 iterate 3 (first|apply Zp|apply Yb|(apply Goes.ops2 fits Hh Za; · simp (decide:=true) only [go_sem,Zl,H.get_put,H.Zd,Ze,Zz,reduceIte,Nat.reduceAdd,Nat.reduceMul,f2,f3,hr,hr2,rd,wr,lp,Ug,O7,Oo,gW,Nat.beq_refl]<;>rfl))
 refine⟨fun n hn'=>?_,?_⟩
 ·rw[H.get_put,if_neg (by omega),hk n (by omega),H.Zd,H.Zc,if_neg (by omega),H.Zd,if_neg (by omega)]
 ·have e1:Tryz.f96.results.toList=[.cell 2 73]:=rfl
  simp (decide:=true) only [Ot,Y7,finish,e1,Y3,Zx,Z0,asC,Zb,reduceIte,f2,Go.Ev.load,Ug,Ze,O7,Oo,H.get_put,cond_true,rd,gW,Ui]
end
theorem Uz:K.types.get 54=some ti54:=by kernel_rfl
theorem Bq:ti54.size=4:=rfl
theorem Bh:ti54.agg=true:=rfl
theorem Wq:Zk K 54 0=some (0,ti3):=by kernel_rfl
theorem Q7:Zk K 54 1=some (1,ti3):=by kernel_rfl
theorem Fj:Zk K 54 2=some (2,ti3):=by kernel_rfl
theorem Zvr:Zk K 54 3=some (3,ti3):=by kernel_rfl
theorem geo0 (a b c d:C):read1 4 [[a,b,c,d]] 0=some a:=rfl
theorem geo1 (a b c d:C):read1 4 [[a,b,c,d]] 1=some b:=rfl
theorem geo2 (a b c d:C):read1 4 [[a,b,c,d]] 2=some c:=rfl
theorem geo3 (a b c d:C):read1 4 [[a,b,c,d]] 3=some d:=rfl
noncomputable def q93 (p:List Nat):Code:=piece p (Ut Tryz.f93)
noncomputable def q94 (p:List Nat):Code:=piece p (Ut Tryz.f94)
theorem Zoy:q94 [1,1,1,0,1,2]=.loop (q94 [1,1,1,0,1,2,2]):=by kernel_rfl
theorem Zj2:q94 [1,1,1,1,1,0,1,2]=.loop (q94 [1,1,1,1,1,0,1,2,2]):=by kernel_rfl
theorem Wh:q94 [1,1,1,1,1,0,1,2,2,1,0,2,1,0,1]=.block 4 (q94 [1,1,1,1,1,0,1,2,2,1,0,2,1,0,1,2]):=by kernel_rfl
theorem V8:q94 [1,1,1,1,1,0,1,2,2,1,0,2,1,0,1,2]=.loop (q94 [1,1,1,1,1,0,1,2,2,1,0,2,1,0,1,2,2]):=by kernel_rfl
theorem Wi:q94 [1,1,1,1,1,0,1,2,2,1,0,2,1,1,1]=.block 6 (q94 [1,1,1,1,1,0,1,2,2,1,0,2,1,1,1,2]):=by kernel_rfl
theorem V9:q94 [1,1,1,1,1,0,1,2,2,1,0,2,1,1,1,2]=.loop (q94 [1,1,1,1,1,0,1,2,2,1,0,2,1,1,1,2,2]):=by kernel_rfl
section
variable (Hh:Hearts K Tryz.prog)
include Hh
theorem Z13 {gr sz ino jr:Nat} (F:Fine gr sz ino jr) (h:Go.Ev.H):Zg 93 [.g (Yw gr sz ino jr)] h (.w (.c (.bool true))) h:=by
 refine Zv.tidy ⟨_,Tryz.func93,by kernel_rfl,of_decide_eq_true (by kernel_rfl)⟩ fun tidy=>?_
 suffices hs:Ya 66 none (q93 []) [] (Jj 0 [.g (Yw gr sz ino jr)] .nil) h fun x ds ts h1=>(∀ n,n<h.next→h1.get n=h.get n)∧leave K Tryz.f93 (some (.at x ds ts h1))=some (.val (.w (.c (.bool true))) h1) by
  obtain⟨x,ds,ts,h1,g,e2,e3⟩:=hs
  exact (Zv.body fits Hh (by kernel_rfl) (by kernel_rfl) (by kernel_rfl) (by kernel_rfl) rfl g e3).quiet rfl e2
 obtain⟨g1,g2,g3,g4,g5,g6,g7,g8,g9,g10,g11⟩:=F
 have e0:Zi (Jj 0 [.g (Yw gr sz ino jr)] .nil) 0=.w (.g [.int .i64 gr,.int .i64 sz,.int .i64 ino,.int .i64 jr]):=by rw[Um]; rfl
 have c1:decide ((gr:Int)<1)=false:=decide_eq_false (by omega)
 have c2:decide ((gr:Int) > 4)=false:=decide_eq_false (by omega)
 have c3:decide ((sz:Int)<16)=false:=decide_eq_false (by omega)
 have c4:decide ((sz:Int) > 512)=false:=decide_eq_false (by omega)
 have c5:decide ((ino:Int)<4)=false:=decide_eq_false (by omega)
 have c6:decide ((ino:Int) > 64)=false:=decide_eq_false (by omega)
 have c7:Ti .i64 (ino:Int) 4=some (.int .i64 0):=by
  show some (C.int .i64 ((ino:Int).tmod 4))=_
  rw[show (ino:Int).tmod 4=((ino % 4:Nat):Int) from rfl,g7]
  rfl
 have c8:decide ((jr:Int)<40)=false:=decide_eq_false (by omega)
 have c9:decide ((jr:Int) > 256)=false:=decide_eq_false (by omega)
 have q1:F9 .i64 (ino:Int) 4=some (.int .i64 ((ino / 4:Nat):Int)):=by
  show some (Yq .i64 ((ino:Int).tdiv 4))=_
  rw[show (ino:Int).tdiv 4=((ino / 4:Nat):Int) from rfl,wrap64 (by omega) (by omega)]
 have w1:Yq .i64 (3+((ino / 4:Nat):Int))=.int .i64 ((3+ino / 4:Nat):Int):=by rw[wrap64 (by omega) (by omega)]; congr 1
 have c10:decide ((sz:Int) ≥ ((3+ino / 4:Nat):Int))=true:=decide_eq_true (by omega)
 have w2:Yq .i64 (2+(jr:Int))=.int .i64 ((2+jr:Nat):Int):=by rw[wrap64 (by omega) (by omega)]; congr 1
 have hm:gr * sz≤2048:=by omega
 have w3:Yq .i64 ((gr:Int) * (sz:Int))=.int .i64 ((gr * sz:Nat):Int):=by
  have e:(gr:Int) * (sz:Int)=((gr * sz:Nat):Int):=by simp
  rw[e,wrap64 (by omega) (by omega)]
 have w4:Yq .i64 (((2+jr:Nat):Int)+((gr * sz:Nat):Int))=.int .i64 ((2+jr+gr * sz:Nat):Int):=by rw[wrap64 (by omega) (by omega)]; congr 1
 have c11:decide (((2+jr+gr * sz:Nat):Int)≤2048)=true:=decide_eq_true (by omega)
 have e1:Tryz.f93.results.toList=[.tmp 2]:=rfl
 have z0:((0:Int) != 0)=false:=rfl
 iterate 10 (first|apply Zp|apply Z6|apply Yb|((first|apply Goes.Zn|apply Goes.ops2 fits Hh Za); · simp (decide:=true) only [go_sem,Zl,H.get_put,H.Zd,Ze,Zz,reduceIte,Nat.reduceAdd,Nat.reduceMul,Zx,Z0,asC,Zb,Ye,Z7,e0,c1,c2,c3,c4,c5,c6,c7,c8,c9,q1,w1,c10,w2,w3,w4,c11,z0,Yr,Wq,Q7,Fj,Zvr,geo0,geo1,geo2,geo3,Ji,Oq,Oj,cW,Nat.zero_add]<;>rfl))
 refine⟨fun n hn=>?_,?_⟩
 ·rw[H.Zd,if_neg (by omega)]
 ·simp (decide:=true) only [Ot,Y7,finish,e1,Y3,evalW,Z0,asW,Zb,reduceIte,Ui]
end
def thing (k gr at' ino:Int):List C:=[.int .u8 k,.int .i64 gr,.int .i64 at',.int .i64 ino]
theorem Jm:K.types.get 176=some ti176:=by kernel_rfl
theorem L6:Y1 K 171=some ti176:=by kernel_rfl
theorem J9:ti176.size=4:=rfl
theorem Zu0:ti176.bytes=32:=rfl
theorem bld1 (k:Int):Yd K 176 (some [(0,.c (.int .u8 k))])=some (.g [.int .u8 k,.int .i64 0,.int .i64 0,.int .i64 0]):=by kernel_rfl
theorem bld3 (k a:Int):Yd K 176 (some [(0,.c (.int .u8 k)),(2,.c (.int .i64 a))])=some (.g [.int .u8 k,.int .i64 0,.int .i64 a,.int .i64 0]):=by kernel_rfl
theorem bld4 (k a:Int):Yd K 176 (some [(0,.c (.int .u8 k)),(1,.c (.int .i64 a))])=some (.g [.int .u8 k,.int .i64 a,.int .i64 0,.int .i64 0]):=by kernel_rfl
theorem bld5 (k a b:Int):Yd K 176 (some [(0,.c (.int .u8 k)),(1,.c (.int .i64 a)),(2,.c (.int .i64 b))])=some (.g [.int .u8 k,.int .i64 a,.int .i64 b,.int .i64 0]):=by kernel_rfl
theorem bld6 (k a b c:Int):Yd K 176 (some [(0,.c (.int .u8 k)),(1,.c (.int .i64 a)),(2,.c (.int .i64 b)),(3,.c (.int .i64 c))])=some (.g [.int .u8 k,.int .i64 a,.int .i64 b,.int .i64 c]):=by kernel_rfl
theorem bs1 (h:Go.Ev.H) (a b c d:C):Y4 h 1 (some ti176) (some [(0,.g [a,b,c,d])])=some (.w (.c (.slice h.next 0 1 4)),h.new (.row 4 [[a,b,c,d]] false)):=rfl
theorem bs2 (h:Go.Ev.H) (a b c d a' b' c' d':C):Y4 h 2 (some ti176) (some [(0,.g [a,b,c,d]),(1,.g [a',b',c',d'])])=some (.w (.c (.slice h.next 0 2 4)),h.new (.row 4 [[a,b,c,d],[a',b',c',d']] false)):=rfl
theorem Za4 (n off len sz:Nat):Jb K 171 (.slice n off len sz)=true:=by unfold Jb; rw[show K.types.get 171=some ti171 by kernel_rfl]; rfl
structure AllSt (p:Nat) (h0:Go.Ev.H) (L:List (List C)) (ts:Zw) (h:Go.Ev.H):Prop where
 p1:Zi ts 1=.w (.c (.ptr p 0))
 sl:∃ n,Zi ts 3=.w (.c (.slice n 0 L.length 4))∧h.get n=some (.row 4 L false)∧p<n∧n<h.next
 up:h0.next≤h.next
 keep:∀ m,m≤p→h.get m=h0.get m
theorem AllSt.grow {p n:Nat} {h0 h:Go.Ev.H} {L M:List (List C)} {ts ts':Zw} (s:AllSt p h0 L ts h) (hn:p<n) (hlt:n<h.next) (e1:Zi ts' 1=.w (.c (.ptr p 0))) (e3:Zi ts' 3=.w (.c (.slice (h.next+1) 0 (L.length+M.length) 4))):AllSt p h0 (L++M) ts' (((h.new (.row 4 M false)).del n).new (.row 4 (L++M) false)):=by
 refine⟨e1,⟨h.next+1,by rw[e3,List.length_append],?_,by omega,?_⟩,?_,fun m hm=>?_⟩
 ·rw[H.Zd,H.Yo,H.Zc,if_pos rfl]
 ·rw[H.Zc,H.Yo,H.Zc]; omega
 ·rw[H.Zc,H.Yo,H.Zc]; have:=s.up; omega
 ·rw[H.Zd,H.Yo,H.Zc,if_neg (by omega),H.Bb,if_neg (by omega),H.Zd,if_neg (by omega)]
  exact s.keep m hm
theorem AllSt.same {p:Nat} {h0 h:Go.Ev.H} {L:List (List C)} {ts ts':Zw} (s:AllSt p h0 L ts h) (e1:Zi ts' 1=Zi ts 1) (e3:Zi ts' 3=Zi ts 3):AllSt p h0 L ts' h :=
 ⟨by rw[e1]; exact s.p1,by rw[e3]; exact s.sl,s.up,s.keep⟩
theorem grow1 {h:Go.Ev.H} {n:Nat} {L:List (List C)} (x:List C) (ho:h.get n=some (.row 4 L false)) (hn:n<h.next) (hl:L.length≤4000) :
  Uy (h.new (.row 4 [x] false)) (some ti176) (.slice n 0 L.length 4) (.slice h.next 0 1 4)=some (.w (.c (.slice (h.next+1) 0 (L.length+1) 4)),((h.new (.row 4 [x] false)).del n).new (.row 4 (L++[x]) false)) :=
 Xf (M:=[x]) J9 (by rw[H.Zd,if_neg (by omega)]; exact ho) (by rw[H.Zd,if_pos rfl]) (by simp) (by rw[Zu0]; show (L.length+1) * 32≤_; omega) (by show L.length+1≤_; omega)
theorem grow2 {h:Go.Ev.H} {n:Nat} {L:List (List C)} (x y:List C) (ho:h.get n=some (.row 4 L false)) (hn:n<h.next) (hl:L.length≤4000) :
  Uy (h.new (.row 4 [x,y] false)) (some ti176) (.slice n 0 L.length 4) (.slice h.next 0 2 4)=some (.w (.c (.slice (h.next+1) 0 (L.length+2) 4)),((h.new (.row 4 [x,y] false)).del n).new (.row 4 (L++[x,y]) false)) :=
 Xf (M:=[x,y]) J9 (by rw[H.Zd,if_neg (by omega)]; exact ho) (by rw[H.Zd,if_pos rfl]) (by simp) (by rw[Zu0]; show (L.length+2) * 32≤_; omega) (by show L.length+2≤_; omega)
def jrL (i:Nat):List (List C):=[thing 1 0 0 0,thing 2 0 0 0]++(List.range i).map fun (j:Nat)=>thing 3 0 j 0
def inL (a ino c:Nat):List (List C):=(List.range c).map fun (k:Nat)=>thing 6 a ((2+k:Nat):Int) ((1+a * ino+4 * k:Nat):Int)
def daL (a ino d:Nat):List (List C):=(List.range d).map fun (k:Nat)=>thing 7 a ((2+ino / 4+k:Nat):Int) 0
def grL (sz ino a:Nat):List (List C):=[thing 4 a 0 0,thing 5 a 1 0]++inL a ino (ino / 4)++daL a ino (sz - (2+ino / 4))
def Gq (sz ino a:Nat):List (List C):=(List.range a).flatMap (grL sz ino)
def Ol (gr sz ino jr:Nat):List (List C):=jrL jr++Gq sz ino gr
theorem Zdq (i:Nat):(jrL i).length=2+i:=by simp [jrL]; omega
theorem Zwa (i:Nat):jrL (i+1)=jrL i++[thing 3 0 i 0]:=by simp [jrL,List.range_succ]
theorem Zjm (a ino c:Nat):(inL a ino c).length=c:=by simp [inL]
theorem Zv6 (a ino c:Nat):inL a ino (c+1)=inL a ino c++[thing 6 a ((2+c:Nat):Int) ((1+a * ino+4 * c:Nat):Int)]:=by simp [inL,List.range_succ]
theorem Zqx (a ino d:Nat):(daL a ino d).length=d:=by simp [daL]
theorem Zvf (a ino d:Nat):daL a ino (d+1)=daL a ino d++[thing 7 a ((2+ino / 4+d:Nat):Int) 0]:=by simp [daL,List.range_succ]
theorem Zz6 {sz ino:Nat} (h:3+ino / 4≤sz) (a:Nat):(grL sz ino a).length=sz:=by simp [grL,Zjm,Zqx]; omega
theorem Zah (sz ino a:Nat):Gq sz ino (a+1)=Gq sz ino a++grL sz ino a:=by simp [Gq,List.range_succ]
theorem Vs {sz ino:Nat} (h:3+ino / 4≤sz) (a:Nat):(Gq sz ino a).length=a * sz:=by
 induction a with
 | zero=>simp [Gq]
 | succ a ih=>rw[Zah,List.length_append,ih,Zz6 h,Nat.succ_mul]
section
variable (Hh:Hearts K Tryz.prog)
include Hh
theorem all1 {gr sz ino jr:Nat} (F:Fine gr sz ino jr) (p:Nat) (h0:Go.Ev.H) (hp:h0.get p=some (.row 4 [Yw gr sz ino jr] false)):∀ (k i:Nat) (ts:Zw) (h:Go.Ev.H),i+k=jr→AllSt p h0 (jrL i) ts h→Zi ts 4=.w (.c (.int .i64 i)) →
  Ya 73 none (q94 [1,1,1,0,1,2]) [] ts h fun x ds' ts' h'=>x=.exit 0∧ds'=[]∧AllSt p h0 (jrL jr) ts' h':=by
 obtain⟨g1,g2,g3,g4,g5,g6,g7,g8,g9,g10,g11⟩:=F
 intro k
 induction k with
 | zero =>
  intro i ts h hi st h4
  have ei:i=jr:=by omega
  subst ei
  have hg:h.get p=some (.row 4 [[.int .i64 gr,.int .i64 sz,.int .i64 ino,.int .i64 i]] false):=(st.keep p (Nat.le_refl _)).trans hp
  have h1:=st.p1
  have c1:decide ((i:Int)<(i:Int))=false:=decide_eq_false (by omega)
  iterate 6 (first|apply Zp|apply Oe|apply Yt|((first|apply Goes.Zn|apply Goes.ops2 fits Hh Za); · simp (decide:=true) only [go_sem,Zl,H.get_put,H.Zd,Ze,Zz,reduceIte,Nat.reduceAdd,Nat.reduceMul,Zx,Z0,asC,Zb,Ye,Z7,h4,h1,hg,c1,Zvr,geo3,Ji,Oq,Oj,cW,Nat.zero_add]<;>rfl))
  refine⟨rfl,rfl,st.same ?_ ?_⟩
  ·simp (decide:=true) only [Zb,reduceIte]
  ·simp (decide:=true) only [Zb,reduceIte]
 | succ k ih =>
  intro i ts h hi st h4
  have hg:h.get p=some (.row 4 [[.int .i64 gr,.int .i64 sz,.int .i64 ino,.int .i64 jr]] false):=(st.keep p (Nat.le_refl _)).trans hp
  have h1:=st.p1
  obtain⟨n,h3,hn,hpn,hlt⟩:=st.sl
  have c1:decide ((i:Int)<(jr:Int))=true:=decide_eq_true (by omega)
  have w1:Yq .i64 ((i:Int)+1)=.int .i64 ((i+1:Nat):Int):=by rw[wrap64 (by omega) (by omega)]; congr 1
  have ap:=grow1 (thing 3 0 i 0) hn hlt (by rw[Zdq]; omega)
  simp only[thing] at ap
  iterate 10 (first|apply Zp|apply Z6|apply Yk|apply Yt|((first|apply Goes.Zn|apply Goes.ops2 fits Hh Za); · simp (decide:=true) only [go_sem,Zl,H.get_put,H.Zd,Ze,Zz,reduceIte,Nat.reduceAdd,Nat.reduceMul,Zx,Z0,asC,Zb,Ye,Z7,h4,h1,h3,hg,c1,w1,ap,Zvr,geo3,Ji,Oq,Oj,cW,Nat.zero_add,bld3,bs1,L6,Za4,Zt]<;>rfl))
  show Ya 73 none (.loop (q94 [1,1,1,0,1,2,2])) _ _ _ _
  rw[←Zoy]
  refine ih (i+1) _ _ (by omega) ?_ ?_
  ·rw[Zwa]
   refine st.grow hpn hlt ?_ ?_
   ·simp (decide:=true) only [Zb,reduceIte,h1]
   ·simp (decide:=true) only [Zb,reduceIte]
    rfl
  ·simp (decide:=true) only [Zb,reduceIte]
theorem all4 {gr sz ino jr:Nat} (F:Fine gr sz ino jr) (a:Nat) (ha:a<gr) (p:Nat) (h0:Go.Ev.H) (hp:h0.get p=some (.row 4 [Yw gr sz ino jr] false)) (B:List (List C)) (hB:B.length≤2060):∀ (k c:Nat) (ts:Zw) (h:Go.Ev.H),c+k=ino / 4→AllSt p h0 (B++inL a ino c) ts h→Zi ts 6=.w (.c (.int .i64 a))→Zi ts 7=.w (.c (.int .i64 ((4 * c:Nat):Int)))→Zi ts 5=.w (.c (.int .i64 ((1+a * ino+4 * c:Nat):Int))) →
  Ya 73 none (q94 [1,1,1,1,1,0,1,2,2,1,0,2,1,0,1,2]) [] ts h fun x ds' ts' h'=>x=.exit 4∧ds'=[]∧AllSt p h0 (B++inL a ino (ino / 4)) ts' h'∧Zi ts' 6=.w (.c (.int .i64 a))∧Zi ts' 5=.w (.c (.int .i64 ((1+(a+1) * ino:Nat):Int))):=by
 obtain⟨g1,g2,g3,g4,g5,g6,g7,g8,g9,g10,g11⟩:=F
 have ham:a * ino≤4 * 64:=Nat.mul_le_mul (by omega) (by omega)
 intro k
 induction k with
 | zero =>
  intro c ts h hc st h6 h7 h5
  have ec:c=ino / 4:=by omega
  subst ec
  have hg:h.get p=some (.row 4 [[.int .i64 gr,.int .i64 sz,.int .i64 ino,.int .i64 jr]] false):=(st.keep p (Nat.le_refl _)).trans hp
  have h1:=st.p1
  have c1:decide (((4 * (ino / 4):Nat):Int)<(ino:Int))=false:=decide_eq_false (by omega)
  iterate 6 (first|apply Zp|apply Oe|apply Yt|((first|apply Goes.Zn|apply Goes.ops2 fits Hh Za); · simp (decide:=true) only [go_sem,Zl,H.get_put,H.Zd,Ze,Zz,reduceIte,Nat.reduceAdd,Nat.reduceMul,Zx,Z0,asC,Zb,Ye,Z7,h7,h1,hg,c1,Fj,geo2,Ji,Oq,Oj,cW,Nat.zero_add]<;>rfl))
  refine⟨rfl,rfl,st.same ?_ ?_,?_,?_⟩
  ·simp (decide:=true) only [Zb,reduceIte]
  ·simp (decide:=true) only [Zb,reduceIte]
  ·simp (decide:=true) only [Zb,reduceIte,h6]
  ·simp (decide:=true) only [Zb,reduceIte,h5]
   have:1+a * ino+4 * (ino / 4)=1+(a+1) * ino:=by rw[Nat.add_mul,Nat.one_mul]; omega
   rw[this]
 | succ k ih =>
  intro c ts h hc st h6 h7 h5
  have hg:h.get p=some (.row 4 [[.int .i64 gr,.int .i64 sz,.int .i64 ino,.int .i64 jr]] false):=(st.keep p (Nat.le_refl _)).trans hp
  have h1:=st.p1
  obtain⟨n,h3,hn,hpn,hlt⟩:=st.sl
  have c1:decide (((4 * c:Nat):Int)<(ino:Int))=true:=decide_eq_true (by omega)
  have q1:F9 .i64 ((4 * c:Nat):Int) 4=some (.int .i64 (c:Int)):=by
   show some (Yq .i64 (((4 * c:Nat):Int).tdiv 4))=_
   rw[show ((4 * c:Nat):Int).tdiv 4=((4 * c / 4:Nat):Int) from rfl,show 4 * c / 4=c by omega,wrap64 (by omega) (by omega)]
  have w1:Yq .i64 (2+(c:Int))=.int .i64 ((2+c:Nat):Int):=by rw[wrap64 (by omega) (by omega)]; congr 1
  have w2:Yq .i64 (((1+a * ino+4 * c:Nat):Int)+4)=.int .i64 ((1+a * ino+4 * (c+1):Nat):Int):=by rw[wrap64 (by omega) (by omega)]; congr 1
  have w3:Yq .i64 (((4 * c:Nat):Int)+4)=.int .i64 ((4 * (c+1):Nat):Int):=by rw[wrap64 (by omega) (by omega)]; congr 1
  have ap:=grow1 (thing 6 a ((2+c:Nat):Int) ((1+a * ino+4 * c:Nat):Int)) hn hlt (by rw[List.length_append,Zjm]; omega)
  simp only[thing] at ap
  iterate 12 (first|apply Zp|apply Z6|apply Yk|apply Yt|((first|apply Goes.Zn|apply Goes.ops2 fits Hh Za); · simp (decide:=true) only [go_sem,Zl,H.get_put,H.Zd,Ze,Zz,reduceIte,Nat.reduceAdd,Nat.reduceMul,Zx,Z0,asC,Zb,Ye,Z7,h7,h6,h5,h1,h3,hg,c1,q1,w1,w2,w3,ap,Fj,geo2,Ji,Oq,Oj,cW,Nat.zero_add,bld6,bs1,L6,Za4,Zt]<;>rfl))
  show Ya 73 none (.loop (q94 [1,1,1,1,1,0,1,2,2,1,0,2,1,0,1,2,2])) _ _ _ _
  rw[←V8]
  refine ih (c+1) _ _ (by omega) ?_ ?_ ?_ ?_
  ·rw[Zv6,←List.append_assoc]
   refine st.grow hpn hlt ?_ ?_
   ·simp (decide:=true) only [Zb,reduceIte,h1]
   ·simp (decide:=true) only [Zb,reduceIte]
    rfl
  ·simp (decide:=true) only [Zb,reduceIte,h6]
  ·simp (decide:=true) only [Zb,reduceIte]
  ·simp (decide:=true) only [Zb,reduceIte]
theorem all6 {gr sz ino jr:Nat} (F:Fine gr sz ino jr) (a:Nat) (ha:a<gr) (p:Nat) (h0:Go.Ev.H) (hp:h0.get p=some (.row 4 [Yw gr sz ino jr] false)) (B:List (List C)) (hB:B.length≤2100):∀ (k d:Nat) (ts:Zw) (h:Go.Ev.H),2+ino / 4+d+k=sz→AllSt p h0 (B++daL a ino d) ts h→Zi ts 6=.w (.c (.int .i64 a))→Zi ts 8=.w (.c (.int .i64 ((2+ino / 4+d:Nat):Int))) →
  Ya 73 none (q94 [1,1,1,1,1,0,1,2,2,1,0,2,1,1,1,2]) [] ts h fun x ds' ts' h'=>x=.exit 6∧ds'=[]∧AllSt p h0 (B++daL a ino (sz - (2+ino / 4))) ts' h'∧Zi ts' 6=.w (.c (.int .i64 a))∧Zi ts' 5=Zi ts 5:=by
 obtain⟨g1,g2,g3,g4,g5,g6,g7,g8,g9,g10,g11⟩:=F
 intro k
 induction k with
 | zero =>
  intro d ts h hd st h6 h8
  have ed:d=sz - (2+ino / 4):=by omega
  subst ed
  have hg:h.get p=some (.row 4 [[.int .i64 gr,.int .i64 sz,.int .i64 ino,.int .i64 jr]] false):=(st.keep p (Nat.le_refl _)).trans hp
  have h1:=st.p1
  have c1:decide (((2+ino / 4+(sz - (2+ino / 4)):Nat):Int)<(sz:Int))=false:=decide_eq_false (by omega)
  iterate 6 (first|apply Zp|apply Oe|apply Yt|((first|apply Goes.Zn|apply Goes.ops2 fits Hh Za); · simp (decide:=true) only [go_sem,Zl,H.get_put,H.Zd,Ze,Zz,reduceIte,Nat.reduceAdd,Nat.reduceMul,Zx,Z0,asC,Zb,Ye,Z7,h8,h1,hg,c1,Q7,geo1,Ji,Oq,Oj,cW,Nat.zero_add]<;>rfl))
  refine⟨rfl,rfl,st.same ?_ ?_,?_,?_⟩
  ·simp (decide:=true) only [Zb,reduceIte]
  ·simp (decide:=true) only [Zb,reduceIte]
  ·simp (decide:=true) only [Zb,reduceIte,h6]
  ·simp (decide:=true) only [Zb,reduceIte]
 | succ k ih =>
  intro d ts h hd st h6 h8
  have hg:h.get p=some (.row 4 [[.int .i64 gr,.int .i64 sz,.int .i64 ino,.int .i64 jr]] false):=(st.keep p (Nat.le_refl _)).trans hp
  have h1:=st.p1
  obtain⟨n,h3,hn,hpn,hlt⟩:=st.sl
  have c1:decide (((2+ino / 4+d:Nat):Int)<(sz:Int))=true:=decide_eq_true (by omega)
  have w1:Yq .i64 (((2+ino / 4+d:Nat):Int)+1)=.int .i64 ((2+ino / 4+(d+1):Nat):Int):=by rw[wrap64 (by omega) (by omega)]; congr 1
  have ap:=grow1 (thing 7 a ((2+ino / 4+d:Nat):Int) 0) hn hlt (by rw[List.length_append,Zqx]; omega)
  simp only[thing] at ap
  iterate 10 (first|apply Zp|apply Z6|apply Yk|apply Yt|((first|apply Goes.Zn|apply Goes.ops2 fits Hh Za); · simp (decide:=true) only [go_sem,Zl,H.get_put,H.Zd,Ze,Zz,reduceIte,Nat.reduceAdd,Nat.reduceMul,Zx,Z0,asC,Zb,Ye,Z7,h8,h6,h1,h3,hg,c1,w1,ap,Q7,geo1,Ji,Oq,Oj,cW,Nat.zero_add,bld5,bs1,L6,Za4,Zt]<;>rfl))
  show Ya 73 none (.loop (q94 [1,1,1,1,1,0,1,2,2,1,0,2,1,1,1,2,2])) _ _ _ _
  rw[←V9]
  refine (ih (d+1) _ _ (by omega) ?_ ?_ ?_).mono ?_
  ·rw[Zvf,←List.append_assoc]
   refine st.grow hpn hlt ?_ ?_
   ·simp (decide:=true) only [Zb,reduceIte,h1]
   ·simp (decide:=true) only [Zb,reduceIte]
    rfl
  ·simp (decide:=true) only [Zb,reduceIte,h6]
  ·simp (decide:=true) only [Zb,reduceIte]
  ·rintro x ds' ts' h' ⟨e1,e2,e3,e4,e5⟩
   refine⟨e1,e2,e3,e4,?_⟩
   rw[e5]
   simp (decide:=true) only [Zb,reduceIte]
theorem all2 {gr sz ino jr:Nat} (F:Fine gr sz ino jr) (p:Nat) (h0:Go.Ev.H) (hp:h0.get p=some (.row 4 [Yw gr sz ino jr] false)):∀ (k a:Nat) (ts:Zw) (h:Go.Ev.H),a+k=gr→AllSt p h0 (jrL jr++Gq sz ino a) ts h→Zi ts 6=.w (.c (.int .i64 a))→Zi ts 5=.w (.c (.int .i64 ((1+a * ino:Nat):Int))) →
  Ya 73 none (q94 [1,1,1,1,1,0,1,2]) [] ts h fun x ds' ts' h'=>x=.exit 2∧ds'=[]∧AllSt p h0 (Ol gr sz ino jr) ts' h':=by
 have F':=F
 obtain⟨g1,g2,g3,g4,g5,g6,g7,g8,g9,g10,g11⟩:=F
 intro k
 induction k with
 | zero =>
  intro a ts h ha st h6 h5
  have ea:a=gr:=by omega
  subst ea
  have hg:h.get p=some (.row 4 [[.int .i64 a,.int .i64 sz,.int .i64 ino,.int .i64 jr]] false):=(st.keep p (Nat.le_refl _)).trans hp
  have h1:=st.p1
  have c1:decide ((a:Int)<(a:Int))=false:=decide_eq_false (by omega)
  iterate 6 (first|apply Zp|apply Oe|apply Yt|((first|apply Goes.Zn|apply Goes.ops2 fits Hh Za); · simp (decide:=true) only [go_sem,Zl,H.get_put,H.Zd,Ze,Zz,reduceIte,Nat.reduceAdd,Nat.reduceMul,Zx,Z0,asC,Zb,Ye,Z7,h6,h1,hg,c1,Wq,geo0,Ji,Oq,Oj,cW,Nat.zero_add]<;>rfl))
  refine⟨rfl,rfl,st.same ?_ ?_⟩
  ·simp (decide:=true) only [Zb,reduceIte]
  ·simp (decide:=true) only [Zb,reduceIte]
 | succ k ih =>
  intro a ts h ha st h6 h5
  have hm:a * sz≤gr * sz:=Nat.mul_le_mul (by omega) (Nat.le_refl _)
  have hm2:(a+1) * sz≤gr * sz:=Nat.mul_le_mul (by omega) (Nat.le_refl _)
  rw[Nat.succ_mul] at hm2
  have hlen:(jrL jr++Gq sz ino a).length=2+jr+a * sz:=by rw[List.length_append,Zdq,Vs g10]
  have hg:h.get p=some (.row 4 [[.int .i64 gr,.int .i64 sz,.int .i64 ino,.int .i64 jr]] false):=(st.keep p (Nat.le_refl _)).trans hp
  have h1:=st.p1
  obtain⟨n,h3,hn,hpn,hlt⟩:=st.sl
  have c1:decide ((a:Int)<(gr:Int))=true:=decide_eq_true (by omega)
  have ap:=grow2 (thing 4 a 0 0) (thing 5 a 1 0) hn hlt (by rw[hlen]; omega)
  simp only[thing] at ap
  iterate 13 (first|apply Zp|apply Z6|apply Yk|apply Yt|((first|apply Goes.Zn|apply Goes.ops2 fits Hh Za); · simp (decide:=true) only [go_sem,Zl,H.get_put,H.Zd,Ze,Zz,reduceIte,Nat.reduceAdd,Nat.reduceMul,Zx,Z0,asC,Zb,Ye,Z7,h6,h1,h3,hg,c1,ap,Wq,geo0,Ji,Oq,Oj,cW,Nat.zero_add,bld4,bld5,bs2,L6,Za4,Zt]<;>rfl))
  show Ya 73 none (q94 [1,1,1,1,1,0,1,2,2,1,0,2,1,0,1]) _ _ _ _
  rw[Wh]
  refine Yk ((all4 Hh F' a (by omega) p h0 hp ((jrL jr++Gq sz ino a)++[thing 4 a 0 0,thing 5 a 1 0]) (by rw[List.length_append,hlen]; show _+2≤_; omega) (ino / 4) 0 _ _ (by omega) ?_ ?_ ?_ ?_).mono ?_)
  ·rw[show inL a ino 0=[] from rfl,List.append_nil]
   refine st.grow hpn hlt ?_ ?_
   ·simp (decide:=true) only [Zb,reduceIte,h1]
   ·simp (decide:=true) only [Zb,reduceIte]
    rfl
  ·simp (decide:=true) only [Zb,reduceIte,h6]
  ·simp (decide:=true) only [Zb,reduceIte]
   rfl
  ·simp (decide:=true) only [Zb,reduceIte,h5]
   rfl
  rintro x ds' ts1 h2 ⟨rfl,rfl,st1,f6,f5⟩
  have hg1:h2.get p=some (.row 4 [[.int .i64 gr,.int .i64 sz,.int .i64 ino,.int .i64 jr]] false):=(st1.keep p (Nat.le_refl _)).trans hp
  have f1:=st1.p1
  have q1:F9 .i64 (ino:Int) 4=some (.int .i64 ((ino / 4:Nat):Int)):=by
   show some (Yq .i64 ((ino:Int).tdiv 4))=_
   rw[show (ino:Int).tdiv 4=((ino / 4:Nat):Int) from rfl,wrap64 (by omega) (by omega)]
  have w1:Yq .i64 (2+((ino / 4:Nat):Int))=.int .i64 ((2+ino / 4:Nat):Int):=by rw[wrap64 (by omega) (by omega)]; congr 1
  iterate 2 (first|apply Zp|(apply Goes.ops2 fits Hh Za; · simp (decide:=true) only [go_sem,Zl,H.get_put,H.Zd,Ze,Zz,reduceIte,Nat.reduceAdd,Nat.reduceMul,f1,hg1,q1,w1,Fj,geo2,Ji,Oq,Oj,cW,Nat.zero_add]<;>rfl))
  show Ya 73 none (q94 [1,1,1,1,1,0,1,2,2,1,0,2,1,1,1]) _ _ _ _
  rw[Wi]
  refine Yk ((all6 Hh F' a (by omega) p h0 hp (((jrL jr++Gq sz ino a)++[thing 4 a 0 0,thing 5 a 1 0])++inL a ino (ino / 4)) (by rw[List.length_append,List.length_append,hlen,Zjm]; show _+2+_≤_; omega) (sz - (2+ino / 4)) 0 _ _ (by omega) ?_ ?_ ?_).mono ?_)
  ·rw[show daL a ino 0=[] from rfl,List.append_nil]
   refine st1.same ?_ ?_
   ·simp (decide:=true) only [Zb,reduceIte]
   ·simp (decide:=true) only [Zb,reduceIte]
  ·simp (decide:=true) only [Zb,reduceIte,f6]
  ·simp (decide:=true) only [Zb,reduceIte]
   rfl
  rintro x ds' ts2 h3' ⟨rfl,rfl,st2,k6,k5⟩
  have k5':Zi ts2 5=.w (.c (.int .i64 ((1+(a+1) * ino:Nat):Int))):=by
   rw[k5]
   simp (decide:=true) only [Zb,reduceIte,f5]
  have w2:Yq .i64 ((a:Int)+1)=.int .i64 ((a+1:Nat):Int):=by rw[wrap64 (by omega) (by omega)]; congr 1
  (apply Goes.ops2 fits Hh Za; · simp (decide:=true) only [go_sem,Zl,H.get_put,H.Zd,Ze,Zz,reduceIte,Nat.reduceAdd,Nat.reduceMul,k6,w2]<;>rfl)
  show Ya 73 none (.loop (q94 [1,1,1,1,1,0,1,2,2])) _ _ _ _
  rw[←Zj2]
  refine ih (a+1) _ _ (by omega) ?_ ?_ ?_
  ·have e:jrL jr++Gq sz ino (a+1)=(jrL jr++Gq sz ino a)++[thing 4 a 0 0,thing 5 a 1 0]++inL a ino (ino / 4)++daL a ino (sz - (2+ino / 4)):=by
    rw[Zah,grL]
    simp only[List.append_assoc]
   rw[e]
   refine st2.same ?_ ?_
   ·simp (decide:=true) only [Zb,reduceIte]
   ·simp (decide:=true) only [Zb,reduceIte]
  ·simp (decide:=true) only [Zb,reduceIte]
  ·simp (decide:=true) only [Zb,reduceIte,k5']
omit Hh in
theorem Zrw (gr sz ino jr:Nat):(Ol gr sz ino jr).all (fun l=>l.all C.flat)=true:=by
 rw[List.all_eq_true]
 intro l hl
 simp only[Ol,jrL,Gq,grL,inL,daL,List.mem_append,List.mem_flatMap,List.mem_map,List.mem_cons,List.not_mem_nil,or_false] at hl
 rcases hl with ((h|h)|⟨_,_,h⟩)|⟨_,_,((h|h)|⟨_,_,h⟩)|⟨_,_,h⟩⟩<;>subst h<;>rfl
theorem Z1x {gr sz ino jr:Nat} (F:Fine gr sz ino jr) (h:Go.Ev.H):Zg 94 [.g (Yw gr sz ino jr)] h (.w (.c (.slice h.next 0 (Ol gr sz ino jr).length 4))) (h.new (.row 4 (Ol gr sz ino jr) false)):=by
 refine Zv.tidy ⟨_,Tryz.func94,by kernel_rfl,of_decide_eq_true (by kernel_rfl)⟩ fun tidy=>?_
 suffices hs:Ya 73 none (q94 []) [] (Jj 0 [.g (Yw gr sz ino jr)] .nil) h fun x ds ts h1=>∃ n,h.next≤n∧n<h1.next∧h1.get n=some (.row 4 (Ol gr sz ino jr) false)∧(∀ n,n<h.next→h1.get n=h.get n)∧leave K Tryz.f94 (some (.at x ds ts h1))=some (.val (.w (.c (.slice n 0 (Ol gr sz ino jr).length 4))) h1) by
  obtain⟨x,ds,ts,h1,g,n,e1,e2,e3,e4,e5⟩:=hs
  exact (Zv.body fits Hh (by kernel_rfl) (by kernel_rfl) (by kernel_rfl) (by kernel_rfl) rfl g e5).row1 e1 e3 (Zrw _ _ _ _) e2 e4
 have e0:Zi (Jj 0 [.g (Yw gr sz ino jr)] .nil) 0=.w (.g (Yw gr sz ino jr)):=by rw[Um]; rfl
 have lg:(Yw gr sz ino jr).length=4:=rfl
 have rg:Zm 4 [Yw gr sz ino jr] 0 4=some (Yw gr sz ino jr):=rfl
 have nslice:Qs (.slice none 0 0)=some (.w (.c .snil)):=rfl
 have e1:Tryz.f94.results.toList=[.tmp 2]:=rfl
 have mk:=Z13 Hh F (h.new (.row 4 [Yw gr sz ino jr] false))
 iterate 4 (first|apply Zp|(apply Goes.ops2 fits Hh Za; · simp (decide:=true) only [go_sem,Zl,H.get_put,H.Zd,Ze,Zz,reduceIte,Nat.reduceAdd,Nat.reduceMul,e0,lg,rg,nslice,Yr,Uz,Bq,Bh,gW,bld1,bs2,L6]<;>rfl))
 (apply Goes.ops2 fits Hh (Zu Za mk); · simp (decide:=true) only [go_sem,Zl,H.get_put,H.Zd,Ze,Zz,reduceIte,Nat.reduceAdd,Nat.reduceMul,Z8,e0,lg,rg,nslice,Yr,Uz,Bq,Bh,gW,bld1,bs2,L6]<;>rfl)
 iterate 8 (first|apply Zp|apply Z6|apply Yk|((first|apply Goes.Zn|apply Goes.ops2 fits Hh Za); · simp (decide:=true) only [go_sem,Zl,H.get_put,H.Zd,Ze,Zz,reduceIte,Nat.reduceAdd,Nat.reduceMul,Zx,Z0,asC,Zb,Ye,Z7,e0,lg,rg,nslice,Yr,Uz,Bq,Bh,gW,bld1,bs2,L6]<;>rfl))
 show Ya 73 none (q94 [1,1,1,0,1,2]) _ _ _ _
 have hp:(h.new (.row 4 [Yw gr sz ino jr] false)).get h.next=some (.row 4 [Yw gr sz ino jr] false):=by rw[H.Zd,if_pos rfl]
 refine (all1 Hh F h.next (h.new (.row 4 [Yw gr sz ino jr] false)) hp jr 0 _ _ (by omega) ⟨?_,⟨h.next+1,?_,?_,?_,?_⟩,?_,?_⟩ ?_).mono ?_
 ·simp (decide:=true) only [Zb,reduceIte]
 ·simp (decide:=true) only [Zb,reduceIte,H.Zc]
  rfl
 ·rw[H.Zd,H.Zc,if_pos rfl]
  rfl
 ·omega
 ·rw[H.Zc,H.Zc]; omega
 ·simp only[H.Zc]; omega
 ·intro m hm
  rw[H.Zd,H.Zc,if_neg (by omega)]
 ·simp (decide:=true) only [Zb,reduceIte]
  rfl
 rintro x ds' ts1 h1 ⟨rfl,rfl,st1⟩
 iterate 6 (first|apply Zp|apply Yk|(apply Goes.ops2 fits Hh Za; · simp (decide:=true) only [go_sem,Zl,H.get_put,H.Zd,Ze,Zz,reduceIte,Nat.reduceAdd,Nat.reduceMul]<;>rfl))
 show Ya 73 none (q94 [1,1,1,1,1,0,1,2]) _ _ _ _
 refine (all2 Hh F h.next (h.new (.row 4 [Yw gr sz ino jr] false)) hp gr 0 _ _ (by omega) ?_ ?_ ?_).mono ?_
 ·rw[show Gq sz ino 0=[] from rfl,List.append_nil]
  refine st1.same ?_ ?_
  ·simp (decide:=true) only [Zb,reduceIte]
  ·simp (decide:=true) only [Zb,reduceIte]
 ·simp (decide:=true) only [Zb,reduceIte]
  rfl
 ·simp (decide:=true) only [Zb,reduceIte]
  rw[Nat.zero_mul]
  rfl
 rintro x ds' ts2 h2 ⟨rfl,rfl,st2⟩
 obtain⟨n,f3,hn,hpn,hlt⟩:=st2.sl
 iterate 3 (first|apply Zp|apply Yb|(apply Goes.ops2 fits Hh Za; · simp (decide:=true) only [go_sem,Zl,H.get_put,H.Zd,Ze,Zz,reduceIte,Nat.reduceAdd,Nat.reduceMul,f3]<;>rfl))
 refine⟨n,by omega,hlt,hn,fun m hm=>?_,?_⟩
 ·rw[st2.keep m (by omega),H.Zd,if_neg (by omega)]
 ·simp (decide:=true) only [Ot,Y7,finish,e1,Y3,evalW,Z0,asW,Zb,reduceIte,Ui]
end
noncomputable def q95 (p:List Nat):Code:=piece p (Ut Tryz.f95)
theorem Qn:q95 [1,1,1,0,1,2]=.loop (q95 [1,1,1,0,1,2,2]):=by kernel_rfl
section
variable (Hh:Hearts K Tryz.prog)
include Hh
omit Hh in
theorem Y0:K.types.get 171=some ti171:=by kernel_rfl
omit Hh in
theorem Jl:ti171.desc=.slice 176:=rfl
omit Hh in
theorem Lf:Zk K 176 0=some (0,ti5):=by kernel_rfl
omit Hh in
theorem Lg:Zk K 176 1=some (1,ti3):=by kernel_rfl
omit Hh in
theorem Od:Zk K 176 3=some (3,ti3):=by kernel_rfl
omit Hh in
theorem Bn (n off len sz:Nat):Yv K 171 (.c (.slice n off len sz))=true:=by unfold Yv; rw[Y0]; rfl
def isD:List C→Bool
 | [.int _ k,.int _ a,_,_]=>k == 7&&a == 0
 | _=>false
def O0 (L:List (List C)):Nat:=(L.filter isD).length
omit Hh in
theorem Znx (L:List (List C)) (x:List C):O0 (L++[x])=O0 L+if isD x=true then 1 else 0:=by
 unfold O0
 rw[List.filter_append,List.length_append]
 congr 1
 cases e:isD x<;>simp [e]
def Zit (L:List (List C)):Prop:=∀ x∈L,∃ k a b c:Int,x=thing k a b c
omit Hh in
theorem Tz (gr sz ino jr:Nat):Zit (Ol gr sz ino jr):=by
 intro l hl
 simp only[Ol,jrL,Gq,grL,inL,daL,List.mem_append,List.mem_flatMap,List.mem_map,List.mem_cons,List.not_mem_nil,or_false] at hl
 rcases hl with ((h|h)|⟨_,_,h⟩)|⟨_,_,((h|h)|⟨_,_,h⟩)|⟨_,_,h⟩⟩<;>subst h<;>exact⟨_,_,_,_,rfl⟩
theorem data0 (n:Nat) (L:List (List C)) (ro:Bool) (h:Go.Ev.H) (hL:Zit L) (hn:h.get n=some (.row 4 L ro)) (hlen:L.length≤4000):∀ (k i:Nat) (ts:Zw),i+k=L.length→Zi ts 3=.w (.c (.slice n 0 L.length 4))→Zi ts 5=.w (.c (.int .i64 i))→Zi ts 4=.w (.c (.int .i64 (O0 (L.take i):Nat))) →
  Ya 31 none (q95 [1,1,1,0,1,2]) [] ts h fun x ds' ts' h'=>x=.exit 0∧ds'=[]∧h'=h∧Zi ts' 4=.w (.c (.int .i64 (O0 L:Nat))):=by
 intro k
 induction k with
 | zero =>
  intro i ts hi h3 h5 h4
  have ei:i=L.length:=by omega
  subst ei
  rw[List.take_length] at h4
  have c1:decide ((L.length:Int)<(L.length:Int))=false:=decide_eq_false (by omega)
  iterate 6 (first|apply Zp|apply Oe|apply Yt|((first|apply Goes.Zn|apply Goes.ops2 fits Hh Za); · simp (decide:=true) only [go_sem,Zl,H.get_put,H.Zd,Ze,Zz,reduceIte,Nat.reduceAdd,Nat.reduceMul,Zx,Z0,asC,Zb,Ye,Z7,h3,h5,c1,Zt,J6,Bn]<;>rfl))
  refine⟨rfl,rfl,rfl,?_⟩
  simp (decide:=true) only [Zb,reduceIte,h4]
 | succ k ih =>
  intro i ts hi h3 h5 h4
  have hlt:i<L.length:=by omega
  obtain⟨kd,a,b,c,hx⟩:=hL L[i] (List.getElem_mem hlt)
  have hx':L[i]? = some (thing kd a b c):=by rw[List.getElem?_eq_getElem hlt,hx]
  have r0:read1 4 L (i * 4)=some (.int .u8 kd):=Ee (sz:=4) (j:=0) (by omega) hx'
  have r1:read1 4 L (i * 4+1)=some (.int .i64 a):=Ee (sz:=4) (j:=1) (by omega) hx'
  have c1:decide ((i:Int)<(L.length:Int))=true:=decide_eq_true (by omega)
  have b1:Nat.blt i L.length=true:=U6 hlt
  have w1:Yq .i64 ((i:Int)+1)=.int .i64 ((i+1:Nat):Int):=by rw[wrap64 (by omega) (by omega)]; congr 1
  have hle:O0 (L.take i)≤4000:=Nat.le_trans (List.length_filter_le _ _) (by rw[List.length_take]; omega)
  have w2:Yq .i64 (((O0 (L.take i):Nat):Int)+1)=.int .i64 ((O0 (L.take i)+1:Nat):Int):=by rw[wrap64 (by omega) (by omega)]; congr 1
  have hs:O0 (L.take (i+1))=O0 (L.take i)+if (kd == 7&&a == 0)=true then 1 else 0:=by
   rw[List.take_add_one,hx']
   exact Znx _ _
  by_cases h7:kd=7
  ·have e7:(kd == 7)=true:=by rw[h7]; rfl
   by_cases ha:a=0
   ·have ea:(a == 0)=true:=by rw[ha]; rfl
    rw[e7,ea] at hs
    iterate 13 (first|apply Zp|apply Z6|apply Yk|apply Yt|((first|apply Goes.Zn|apply Goes.ops2 fits Hh Za); · simp (decide:=true) only [go_sem,Zl,H.get_put,H.Zd,Ze,Zz,reduceIte,Nat.reduceAdd,Nat.reduceMul,Zx,Z0,asC,Zb,Ye,Z7,h3,h5,h4,hn,c1,b1,r0,r1,w1,w2,e7,ea,Zt,J6,Bn,Y0,Jl,Jm,J9,Lf,Lg,Ei,Ji,Ng,Oq,Tw,Oj,cW,Nat.zero_add,Nat.add_zero,Nat.beq_refl,beq_self_eq_true]<;>rfl))
    show Ya 31 none (.loop (q95 [1,1,1,0,1,2,2])) _ _ _ _
    rw[←Qn]
    refine ih (i+1) _ (by omega) ?_ ?_ ?_
    ·simp (decide:=true) only [Zb,reduceIte,h3]
    ·simp (decide:=true) only [Zb,reduceIte]
    ·simp (decide:=true) only [Zb,reduceIte,hs]<;>rfl
   ·have ea:(a == 0)=false:=by simpa using ha
    rw[e7,ea] at hs
    iterate 13 (first|apply Zp|apply Z6|apply Yk|apply Yt|((first|apply Goes.Zn|apply Goes.ops2 fits Hh Za); · simp (decide:=true) only [go_sem,Zl,H.get_put,H.Zd,Ze,Zz,reduceIte,Nat.reduceAdd,Nat.reduceMul,Zx,Z0,asC,Zb,Ye,Z7,h3,h5,h4,hn,c1,b1,r0,r1,w1,w2,e7,ea,Zt,J6,Bn,Y0,Jl,Jm,J9,Lf,Lg,Ei,Ji,Ng,Oq,Tw,Oj,cW,Nat.zero_add,Nat.add_zero,Nat.beq_refl,beq_self_eq_true]<;>rfl))
    show Ya 31 none (.loop (q95 [1,1,1,0,1,2,2])) _ _ _ _
    rw[←Qn]
    refine ih (i+1) _ (by omega) ?_ ?_ ?_
    ·simp (decide:=true) only [Zb,reduceIte,h3]
    ·simp (decide:=true) only [Zb,reduceIte]
    ·simp (decide:=true) only [Zb,reduceIte,hs,h4]<;>rfl
  ·have e7:(kd == 7)=false:=by simpa using h7
   rw[e7] at hs
   iterate 13 (first|apply Zp|apply Z6|apply Yk|apply Yt|((first|apply Goes.Zn|apply Goes.ops2 fits Hh Za); · simp (decide:=true) only [go_sem,Zl,H.get_put,H.Zd,Ze,Zz,reduceIte,Nat.reduceAdd,Nat.reduceMul,Zx,Z0,asC,Zb,Ye,Z7,h3,h5,h4,hn,c1,b1,r0,r1,w1,w2,e7,Zt,J6,Bn,Y0,Jl,Jm,J9,Lf,Lg,Ei,Ji,Ng,Oq,Tw,Oj,cW,Nat.zero_add,Nat.add_zero,Nat.beq_refl,beq_self_eq_true]<;>rfl))
   show Ya 31 none (.loop (q95 [1,1,1,0,1,2,2])) _ _ _ _
   rw[←Qn]
   refine ih (i+1) _ (by omega) ?_ ?_ ?_
   ·simp (decide:=true) only [Zb,reduceIte,h3]
   ·simp (decide:=true) only [Zb,reduceIte]
   ·simp (decide:=true) only [Zb,reduceIte,hs,h4]<;>rfl
theorem Zvg {gr sz ino jr:Nat} (F:Fine gr sz ino jr) (h:Go.Ev.H):Zg 95 [.g (Yw gr sz ino jr)] h (.w (.c (.int .i64 (O0 (Ol gr sz ino jr):Nat)))) h:=by
 refine Zv.tidy ⟨_,Tryz.func95,by kernel_rfl,of_decide_eq_true (by kernel_rfl)⟩ fun tidy=>?_
 suffices hs:Ya 31 none (q95 []) [] (Jj 0 [.g (Yw gr sz ino jr)] .nil) h fun x ds ts h1=>(∀ n,n<h.next→h1.get n=h.get n)∧leave K Tryz.f95 (some (.at x ds ts h1))=some (.val (.w (.c (.int .i64 (O0 (Ol gr sz ino jr):Nat)))) h1) by
  obtain⟨x,ds,ts,h1,g,e2,e3⟩:=hs
  exact (Zv.body fits Hh (by kernel_rfl) (by kernel_rfl) (by kernel_rfl) (by kernel_rfl) rfl g e3).quiet rfl e2
 have e0:Zi (Jj 0 [.g (Yw gr sz ino jr)] .nil) 0=.w (.g (Yw gr sz ino jr)):=by rw[Um]; rfl
 have lg:(Yw gr sz ino jr).length=4:=rfl
 have rg:Zm 4 [Yw gr sz ino jr] 0 4=some (Yw gr sz ino jr):=rfl
 have e1:Tryz.f95.results.toList=[.tmp 2]:=rfl
 have mk:=Z1x Hh F (h.new (.row 4 [Yw gr sz ino jr] false))
 have hlen:(Ol gr sz ino jr).length≤4000:=by
  rw[Ol,List.length_append,Zdq,Vs F.fit]
  have:=F.all
  omega
 iterate 3 (first|apply Zp|(apply Goes.ops2 fits Hh Za; · simp (decide:=true) only [go_sem,Zl,H.get_put,H.Zd,Ze,Zz,reduceIte,Nat.reduceAdd,Nat.reduceMul,e0,lg,rg,Yr,Uz,Bq,Bh,gW]<;>rfl))
 (apply Goes.ops2 fits Hh (Zu Za mk); · simp (decide:=true) only [go_sem,Zl,H.get_put,H.Zd,Ze,Zz,reduceIte,Nat.reduceAdd,Nat.reduceMul,Z8,e0,lg,rg,Yr,Uz,Bq,Bh,gW]<;>rfl)
 iterate 6 (first|apply Zp|apply Yk|(apply Goes.ops2 fits Hh Za; · simp (decide:=true) only [go_sem,Zl,H.get_put,H.Zd,Ze,Zz,reduceIte,Nat.reduceAdd,Nat.reduceMul,e0,lg,rg,Yr,Uz,Bq,Bh,gW]<;>rfl))
 show Ya 31 none (q95 [1,1,1,0,1,2]) _ _ _ _
 refine (data0 Hh (h.next+1) (Ol gr sz ino jr) false _ (Tz _ _ _ _) (by rw[H.Zd,H.Zc,if_pos rfl]) hlen (Ol gr sz ino jr).length 0 _ (by omega) ?_ ?_ ?_).mono ?_
 ·simp (decide:=true) only [Zb,reduceIte,H.Zc]
 ·simp (decide:=true) only [Zb,reduceIte]
  rfl
 ·simp (decide:=true) only [Zb,reduceIte]
  rfl
 rintro x ds' ts1 h1 ⟨rfl,rfl,rfl,f4⟩
 iterate 3 (first|apply Zp|apply Yb|(apply Goes.ops2 fits Hh Za; · simp (decide:=true) only [go_sem,Zl,H.get_put,H.Zd,Ze,Zz,reduceIte,Nat.reduceAdd,Nat.reduceMul,f4]<;>rfl))
 refine⟨fun m hm=>?_,?_⟩
 ·rw[H.Zd,H.Zc,if_neg (by omega),H.Zd,if_neg (by omega)]
 ·simp (decide:=true) only [Ot,Y7,finish,e1,Y3,evalW,Z0,asW,Zb,reduceIte,Ui]
end
end Go.Proofs.YtdmendgkbikkaaaGreatDoor
