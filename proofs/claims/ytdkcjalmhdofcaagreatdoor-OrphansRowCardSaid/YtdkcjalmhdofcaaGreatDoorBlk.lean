/- quernref04.Block, on the evaluator's level: bits as a block. -/
import Derived.Test.YtdkcjalmhdofcaaGreatDoorTy
import Derived.Test.YtdkcjalmhdofcaaGreatDoorEvC
set_option linter.unusedSimpArgs false
set_option linter.unusedVariables false
set_option linter.unusedSectionVars false
set_option maxRecDepth 100000
namespace Go.Proofs.YtdkcjalmhdofcaaGreatDoor
open Go.Ev
def Js (f:Nat→Bool):List (List C):=(List.range 2048).map fun i=>[.bool (f i)]
def byteOf (f:Nat→Bool) (i:Nat):Nat→Nat
 | 0=>0
 | k+1=>2 * byteOf f i k+(f (8 * i+(7 - k))).toNat
theorem Zlw (f:Nat→Bool) (i:Nat) (h:i<2048):read1 1 (Js f) i=some (.bool (f i)):=by
 simp [Js,h,read1,Nat.mod_one]
theorem Zhs (f:Nat→Bool) (i k:Nat):byteOf f i k<2 ^ k:=by
 induction k with
 | zero=>simp [byteOf]
 | succ k ih =>
  have:(f (8 * i+(7 - k))).toNat≤1:=by cases f (8 * i+(7 - k))<;>simp
  rw[byteOf,Nat.pow_succ]
  omega
noncomputable def q52 (p:List Nat):Code:=piece p (Jz Tryz.f52)
theorem Zq4:q52 [1,1,0,1,2]=.loop (q52 [1,1,0,1,2,2]):=by kernel_rfl
theorem Zbe:q52 [1,1,0,1,2,2,1,0,2,1,0,1]=.block 2 (q52 [1,1,0,1,2,2,1,0,2,1,0,1,2]):=by kernel_rfl
theorem Md:q52 [1,1,0,1,2,2,1,0,2,1,0,1,2]=.loop (q52 [1,1,0,1,2,2,1,0,2,1,0,1,2,2]):=by kernel_rfl
section
variable (Hh:Hearts K Tryz.prog)
include Hh
theorem inner (f:Nat→Bool) (nb i:Nat) (hi:i<256) (ro:Bool) (h:Go.Ev.H) (hb:h.get nb=some (.row 1 (Js f) ro)):∀ (j:Nat) (ts:Zy),j≤8→Zm ts 0=.w (.c (.slice nb 0 2048 1))→Zm ts 4=.w (.c (.int .i64 i))→Zm ts 5=.w (.c (.int .i64 (byteOf f i (8 - j))))→Zm ts 6=.w (.c (.int .i64 ((j:Int) - 1))) →
  Goes K Tryz.prog 31 none (q52 [1,1,0,1,2,2,1,0,2,1,0,1,2]) [] ts h fun x ds' ts' h'=>x=.exit 2∧ds'=[]∧h'=h∧Zm ts' 5=.w (.c (.int .i64 (byteOf f i 8)))∧∀ s,s≤4→Zm ts' s=Zm ts s:=by
 intro j
 induction j with
 | zero =>
  intro ts _ h0 h4 h5 h6
  iterate 6 (first|apply Goes.seq|apply Goes.exit|apply Goes.loop|((first|apply Goes.Zo|apply Goes.ops2 fits Hh Zb); · simp (decide:=true) only [go_sem,Zr,H.get_put,H.Zf,Za,Zz,reduceIte,Nat.reduceAdd,Nat.reduceMul,Zx,Z0,asC,Ze,Ya,Z7,h6]<;>rfl))
  refine⟨rfl,rfl,rfl,?_,fun s hs=>?_⟩
  ·simp (decide:=true) only [Ze,reduceIte,h5]
  ·simp (decide:=true) only [Yk hs]
 | succ j ih =>
  intro ts hj h0 h4 h5 h6
  have e6:((j+1:Nat):Int) - 1=(j:Int):=by omega
  rw[e6] at h6
  have hlt:=Zhs f i (8 - (j+1))
  have hp:2 ^ (8 - (j+1))≤2 ^ 8:=Nat.pow_le_pow_right (by omega) (by omega)
  have hstep:byteOf f i (8 - j)=2 * byteOf f i (8 - (j+1))+(f (8 * i+j)).toNat:=by
   have e:8 - j=(8 - (j+1))+1:=by omega
   rw[e,byteOf]
   congr 4
   omega
  obtain⟨x,hx⟩:∃ x,byteOf f i (8 - (j+1))=x:=⟨_,rfl⟩
  rw[hx] at h5 hlt hstep
  have d1:decide ((j:Int) ≥ 0)=true:=decide_eq_true (by omega)
  have w1:Yn .i64 (2 * (x:Int))=.int .i64 (2 * x):=wrap64 (by omega) (by omega)
  have w2:Yn .i64 (8 * (i:Int))=.int .i64 ((8 * i:Nat):Int):=by rw[wrap64 (by omega) (by omega)]; congr 1
  have w3:Yn .i64 (((8 * i:Nat):Int)+(j:Int))=.int .i64 ((8 * i+j:Nat):Int):=by rw[wrap64 (by omega) (by omega)]; congr 1
  have w4:Yn .i64 (2 * (x:Int)+1)=.int .i64 (2 * x+1):=wrap64 (by omega) (by omega)
  have w5:Yn .i64 ((j:Int) - 1)=.int .i64 ((j:Int) - 1):=wrap64 (by omega) (by omega)
  have b1:Nat.blt (8 * i+j) 2048=true:=Un (by omega)
  have r1:=Zlw f (8 * i+j) (by omega)
  have n1:Uf (some (.int .i64 ((8 * i+j:Nat):Int)))=some (8 * i+j):=rfl
  cases hf:f (8 * i+j) with
  | true =>
   rw[hf] at r1 hstep
   iterate 15 (first|apply Goes.seq|apply Goes.skip|apply Goes.block|apply Goes.loop|((first|apply Goes.Zo|apply Goes.ops2 fits Hh Zb); · simp (decide:=true) only [go_sem,Zr,H.get_put,H.Zf,Za,Zz,reduceIte,Nat.reduceAdd,Nat.reduceMul,Zx,Z0,asC,Ze,Ya,Z7,h0,h4,h5,h6,d1,w1,w2,w3,w4,w5,b1,r1,n1,hb,L9,Tq,T9,Zcg,Zzx,Nat.beq_refl,Nat.zero_add,Nat.mul_one,cW]<;>rfl))
   show Goes K Tryz.prog 31 none (.loop (q52 [1,1,0,1,2,2,1,0,2,1,0,1,2,2])) _ _ _ _
   rw[←Md]
   refine (ih _ (by omega) ?_ ?_ ?_ ?_).mono ?_
   ·simp (decide:=true) only [Ze,reduceIte,h0]
   ·simp (decide:=true) only [Ze,reduceIte,h4]
   ·simp (decide:=true) only [Ze,reduceIte,hstep,Bool.toNat_true]
    rfl
   ·simp (decide:=true) only [Ze,reduceIte]
   ·rintro y ds' ts' h' ⟨e1,e2,e3,e4,e5⟩
    refine⟨e1,e2,e3,e4,fun s hs=>?_⟩
    rw[e5 s hs]
    simp (decide:=true) only [Yk hs]
  | false =>
   rw[hf] at r1 hstep
   iterate 15 (first|apply Goes.seq|apply Goes.skip|apply Goes.block|apply Goes.loop|((first|apply Goes.Zo|apply Goes.ops2 fits Hh Zb); · simp (decide:=true) only [go_sem,Zr,H.get_put,H.Zf,Za,Zz,reduceIte,Nat.reduceAdd,Nat.reduceMul,Zx,Z0,asC,Ze,Ya,Z7,h0,h4,h5,h6,d1,w1,w2,w3,w4,w5,b1,r1,n1,hb,L9,Tq,T9,Zcg,Zzx,Nat.beq_refl,Nat.zero_add,Nat.mul_one,cW]<;>rfl))
   show Goes K Tryz.prog 31 none (.loop (q52 [1,1,0,1,2,2,1,0,2,1,0,1,2,2])) _ _ _ _
   rw[←Md]
   refine (ih _ (by omega) ?_ ?_ ?_ ?_).mono ?_
   ·simp (decide:=true) only [Ze,reduceIte,h0]
   ·simp (decide:=true) only [Ze,reduceIte,h4]
   ·simp (decide:=true) only [Ze,reduceIte,hstep,Bool.toNat_false]
    rfl
   ·simp (decide:=true) only [Ze,reduceIte]
   ·rintro y ds' ts' h' ⟨e1,e2,e3,e4,e5⟩
    refine⟨e1,e2,e3,e4,fun s hs=>?_⟩
    rw[e5 s hs]
    simp (decide:=true) only [Yk hs]
def Xo (f:Nat→Bool) (i:Nat):List C:=(List.range 256).map fun t=>.int .u8 (if t<i then byteOf f t 8 else 0:Nat)
def pack (f:Nat→Bool):List C:=(List.range 256).map fun t=>.int .u8 (byteOf f t 8:Nat)
omit Hh in
theorem Zqx (f:Nat→Bool):Xo f 256=pack f:=by
 unfold Xo pack
 refine List.map_congr_left fun t ht=>?_
 rw[if_pos (List.mem_range.1 ht)]
omit Hh in
theorem Zrz (f:Nat→Bool):Xo f 0=List.replicate 256 (.int .u8 0):=by
 unfold Xo
 refine List.ext_getElem (by rw[List.length_map,List.length_range,List.length_replicate]) fun t h1 h2=>?_
 rw[List.getElem_replicate,List.getElem_map,if_neg (by omega)]
 rfl
omit Hh in
theorem Zmk (f:Nat→Bool) (i:Nat):(Xo f i).length=256:=by simp [Xo]
omit Hh in
theorem Zmx (f:Nat→Bool) (i:Nat) (hi:i<256):Z4 256 [Xo f i] i [.int .u8 (byteOf f i 8:Nat)]=some [Xo f (i+1)]:=by
 have e1:i / 256=0:=by omega
 have e2:i % 256=i:=by omega
 have e3:Nat.blt i (Xo f i).length=true:=Un (by rw[Zmk]; exact hi)
 simp only[Z4,e1,e2,List.getElem?_cons_zero,e3,cond_true,List.set_cons_zero]
 congr 2
 refine List.ext_getElem (by simp [Xo]) fun t h1 h2=>?_
 simp only[List.getElem_set]
 simp only[Xo,List.getElem_map,List.getElem_range]
 by_cases e:i=t
 ·subst e
  simp
 ·rw[if_neg e]
  congr 2
  by_cases h3:t<i
  ·rw[if_pos h3,if_pos (by omega)]
  ·rw[if_neg h3,if_neg (by omega)]
omit Hh in
theorem Zsi (f:Nat→Bool):(V.w (.g (pack f))).flat=true:=by
 simp only[V.flat,W.flat,List.all_eq_true]
 intro x hx
 simp only[pack,List.mem_map] at hx
 obtain⟨t,_,rfl⟩:=hx
 rfl
theorem outer (f:Nat→Bool) (nb r3:Nat) (hne:nb≠r3) (ro:Bool):∀ (k i:Nat) (ts:Zy) (h:Go.Ev.H),i+k=256→h.get nb=some (.row 1 (Js f) ro)→h.get r3=some (.row 256 [Xo f i] false)→Zm ts 0=.w (.c (.slice nb 0 2048 1))→Zm ts 3=.w (.c (.ptr r3 0))→Zm ts 4=.w (.c (.int .i64 i)) →
  Goes K Tryz.prog 31 none (q52 [1,1,0,1,2]) [] ts h fun x ds' ts' h'=>x=.exit 0∧ds'=[]∧h'.next=h.next∧(∀ n,n≠r3→h'.get n=h.get n)∧h'.get r3=some (.row 256 [pack f] false)∧∀ s,s≤3→Zm ts' s=Zm ts s:=by
 intro k
 induction k with
 | zero =>
  intro i ts h hi hb hr h0 h3 h4
  have ei:i=256:=by omega
  subst ei
  iterate 6 (first|apply Goes.seq|apply Goes.exit|apply Goes.loop|((first|apply Goes.Zo|apply Goes.ops2 fits Hh Zb); · simp (decide:=true) only [go_sem,Zr,H.get_put,H.Zf,Za,Zz,reduceIte,Nat.reduceAdd,Nat.reduceMul,Zx,Z0,asC,Ze,Ya,Z7,h4]<;>rfl))
  refine⟨rfl,rfl,rfl,fun _ _=>rfl,by rw[hr,Zqx],fun s hs=>?_⟩
  simp (decide:=true) only [Yk hs]
 | succ k ih =>
  intro i ts h hi hb hr h0 h3 h4
  have d1:decide ((i:Int)<256)=true:=decide_eq_true (by omega)
  iterate 13 (first|apply Goes.seq|apply Goes.skip|apply Goes.block|apply Goes.loop|((first|apply Goes.Zo|apply Goes.ops2 fits Hh Zb); · simp (decide:=true) only [go_sem,Zr,H.get_put,H.Zf,Za,Zz,reduceIte,Nat.reduceAdd,Nat.reduceMul,Zx,Z0,asC,Ze,Ya,Z7,h4,d1]<;>rfl))
  show Goes K Tryz.prog 31 none (q52 [1,1,0,1,2,2,1,0,2,1,0,1]) _ _ _ _
  rw[Zbe]
  refine Goes.block ((inner Hh f nb i (by omega) ro h hb 8 _ (by omega) ?_ ?_ ?_ ?_).mono ?_)
  ·simp (decide:=true) only [Ze,reduceIte,h0]
  ·simp (decide:=true) only [Ze,reduceIte,h4]
  ·simp (decide:=true) only [Ze,reduceIte]
   rfl
  ·simp (decide:=true) only [Ze,reduceIte]
   rfl
  rintro x ds' ts' h' ⟨rfl,rfl,rfl,e5,elow⟩
  have f0:Zm ts' 0=.w (.c (.slice nb 0 2048 1)):=by rw[elow 0 (by decide)]; simp (decide:=true) only [Ze,reduceIte,h0]
  have f2:Zm ts' 2=Zm ts 2:=by rw[elow 2 (by decide)]; simp (decide:=true) only [Ze,reduceIte]
  have f1:Zm ts' 1=Zm ts 1:=by rw[elow 1 (by decide)]; simp (decide:=true) only [Ze,reduceIte]
  have f3:Zm ts' 3=.w (.c (.ptr r3 0)):=by rw[elow 3 (by decide)]; simp (decide:=true) only [Ze,reduceIte,h3]
  have f4:Zm ts' 4=.w (.c (.int .i64 i)):=by rw[elow 4 (by decide)]; simp (decide:=true) only [Ze,reduceIte,h4]
  have hlt:=Zhs f i 8
  have w8:Yn .u8 (byteOf f i 8:Int)=.int .u8 (byteOf f i 8):=by rw[Zud]; congr 1; omega
  have w9:Yn .i64 ((i:Int)+1)=.int .i64 ((i+1:Nat):Int):=by rw[wrap64 (by omega) (by omega)]; congr 1
  have b1:Nat.blt i 256=true:=Un (by omega)
  have wr:=Zmx f i (by omega)
  show Goes K Tryz.prog 31 none (q52 [1,1,0,1,2,2,1,0,2,1,1]) _ _ _ _
  iterate 2 ((apply Goes.ops2 fits Hh Zb; · simp (decide:=true) only [go_sem,Zr,H.get_put,H.Zf,Za,Zz,reduceIte,Nat.reduceAdd,Nat.reduceMul,f0,f2,f3,f4,e5,w8,w9,b1,wr,hr,J2,Du,Y9,Z10,Z2h,Mi,Nat.beq_refl,Nat.zero_add,Nat.mul_one]<;>rfl))
  show Goes K Tryz.prog 31 none (.loop (q52 [1,1,0,1,2,2])) _ _ _ _
  rw[←Zq4]
  refine (ih (i+1) _ _ (by omega) ?_ ?_ ?_ ?_ ?_).mono ?_
  ·rw[H.get_put,if_neg hne]; exact hb
  ·rw[H.get_put,if_pos rfl]
  ·simp (decide:=true) only [Ze,reduceIte,f0]
  ·simp (decide:=true) only [Ze,reduceIte,f3]
  ·simp (decide:=true) only [Ze,reduceIte]
  ·rintro x ds' ts'' h'' ⟨g1,g2,g3,g4,g5,g6⟩
   refine⟨g1,g2,g3,fun n hn=>?_,g5,fun s hs=>?_⟩
   ·rw[g4 n hn,H.get_put,if_neg hn]
   ·rw[g6 s hs]
    simp (decide:=true) only [Yk hs]
    rw[elow s (Nat.le_trans hs (by decide))]
    simp (decide:=true) only [Yk hs]
theorem Zai (f:Nat→Bool) (nb:Nat) (ro:Bool) (h:Go.Ev.H) (hb:h.get nb=some (.row 1 (Js f) ro)):Zg K Tryz.prog 52 [.c (.slice nb 0 2048 1)] h (.w (.g (pack f))) h:=by
 refine Zg.tidy ⟨_,Tryz.func52,by kernel_rfl,of_decide_eq_true (by kernel_rfl)⟩ fun tidy=>?_
 have hnb:=tidy nb _ hb
 have z54:ti60.zero.cells=Xo f 0:=by rw[Zrz]; rfl
 have e0:Zm (Jm 0 [.c (.slice nb 0 2048 1)] .nil) 0=.w (.c (.slice nb 0 2048 1)):=by rw[Y8]; rfl
 suffices hs:∃ h',(∀ n,n<h.next→h'.get n=h.get n)∧Zg K Tryz.prog 52 [.c (.slice nb 0 2048 1)] h (.w (.g (pack f))) h' by
  obtain⟨h',e2,c⟩:=hs
  exact c.quiet (Zsi f) e2
 suffices hs:Goes K Tryz.prog 31 none (q52 []) [] (Jm 0 [.c (.slice nb 0 2048 1)] .nil) h fun x ds ts h1=>(∀ n,n<h.next→h1.get n=h.get n)∧leave K Tryz.f52 (some (.at x ds ts h1))=some (.val (.w (.g (pack f))) h1) by
  obtain⟨x,ds,ts,h1,g,e2,e3⟩:=hs
  exact⟨h1,e2,Zg.body fits Hh (by kernel_rfl) (by kernel_rfl) (by kernel_rfl) (by kernel_rfl) rfl g e3⟩
 iterate 8 (first|apply Goes.seq|apply Goes.block|(apply Goes.ops2 fits Hh Zb; · simp (decide:=true) only [go_sem,Zr,H.get_put,H.Zf,Za,Zz,reduceIte,Nat.reduceAdd,Nat.reduceMul,e0,J2,Uv,z54]<;>rfl))
 show Goes K Tryz.prog 31 none (q52 [1,1,0,1,2]) _ _ _ _
 refine (outer Hh f nb (h.next+1) (by omega) ro 256 0 _ _ rfl ?_ ?_ ?_ ?_ ?_).mono ?_
 ·rw[H.Zf,H.Zc,if_neg (by omega),H.Zf,if_neg (by omega)]; exact hb
 ·rw[H.Zf,H.Zc,if_pos rfl]
 ·simp (decide:=true) only [Ze,reduceIte,e0]
 ·simp (decide:=true) only [Ze,reduceIte,H.Zc]
 ·simp (decide:=true) only [Ze,reduceIte]
  rfl
 rintro x ds' ts' h' ⟨rfl,rfl,hn,hk,hr,elow⟩
 have f2:Zm ts' 2=.w (.c (.ptr h.next 0)):=by rw[elow 2 (by decide)]; simp (decide:=true) only [Ze,reduceIte]
 have f3:Zm ts' 3=.w (.c (.ptr (h.next+1) 0)):=by rw[elow 3 (by decide)]; simp (decide:=true) only [Ze,reduceIte,H.Zc]
 have hr2:h'.get h.next=some (.row 256 [Xo f 0] false):=by
  rw[hk h.next (by omega),H.Zf,H.Zc,if_neg (by omega),H.Zf,if_pos rfl]
 have rd:Zd 256 [pack f] 0 256=some (pack f):=by
  have e:(pack f).length=256:=by simp [pack]
  have:=S9 (l:=pack f) (by omega)
  rwa [e] at this
 have wr:Z4 256 [Xo f 0] 0 (pack f)=some [pack f]:=by
  have e:(pack f).length=256:=by simp [pack]
  have:=Sb (l:=Xo f 0) (l':=pack f) (by omega) (by rw[Zmk,e])
  rwa [e] at this
 have lp:(pack f).length=256:=by simp [pack]
 show Goes K Tryz.prog 31 none (q52 [1,1,1]) _ _ _ _
 iterate 3 (first|apply Goes.seq|apply Goes.ret|(apply Goes.ops2 fits Hh Zb; · simp (decide:=true) only [go_sem,Zr,H.get_put,H.Zf,Za,Zz,reduceIte,Nat.reduceAdd,Nat.reduceMul,f2,f3,hr,hr2,rd,wr,lp,J2,Oi,Uv,gW,Nat.beq_refl]<;>rfl))
 refine⟨fun n hn'=>?_,?_⟩
 ·rw[H.get_put,if_neg (by omega),hk n (by omega),H.Zf,H.Zc,if_neg (by omega),H.Zf,if_neg (by omega)]
 ·have e1:Tryz.f52.results.toList=[.cell 2 60]:=rfl
  simp (decide:=true) only [U1,Y3,finish,e1,Y1,Zx,Z0,asC,Ze,reduceIte,f2,Go.Ev.load,J2,Za,Oi,Uv,H.get_put,cond_true,rd,gW,J5]
end
end Go.Proofs.YtdkcjalmhdofcaaGreatDoor
