/- crc.Sum and nums.Zero, on the evaluator's level. -/
import Derived.Test.YteiljiijagmonaaGreatDoorBeg
set_option maxRecDepth 100000
set_option maxHeartbeats 4000000
set_option linter.unusedSimpArgs false
set_option linter.unusedVariables false
set_option linter.unusedSectionVars false
namespace Go.Proofs.YteiljiijagmonaaGreatDoor
open Go.Ev
noncomputable section
noncomputable def q75 (p:Lq):Code:=piece p (Ug Tryz.f75)
theorem Z0j:q75 [1,0,1,2]=.loop (q75 [1,0,1,2,2]):=kR
noncomputable def q206 (p:Lq):Code:=piece p (Ug Tryz.f206)
theorem Zr5:q206 [1,1,0,1,2]=.loop (q206 [1,1,0,1,2,2]):=kR
theorem Zdb:q206 [1,1,0,1,2,2,1,1,0,2,1,1]=.block 2 (q206 [1,1,0,1,2,2,1,1,0,2,1,1,2]):=kR
theorem Zb7:q206 [1,1,0,1,2,2,1,1,0,2,1,1,2]=.loop (q206 [1,1,0,1,2,2,1,1,0,2,1,1,2,2]):=kR
def Zff:Lq:=[0,498536548,997073096,651767980,1994146192,1802195444,1303535960,1342533948,3988292384,4027552580,3604390888,3412177804,2607071920,2262029012,2685067896,3183342108]
def Zdk (j:Nat):Nat:=Zff.getD j 0
def Bj:O:=.row 16 [Zff.map fun (n:Nat)=>.int .u32 (n:Int)] true
def half (v:Nat):Nat:=Nat.xor (v / 16) (Zdk (Nat.land v 15))
def Zyt (v b:Nat):Nat:=half (half (Nat.xor v b))
def Zvt:Lq->Nat->Nat
 | [],v=>v
 | b :: l,v=>Zvt l (Zyt v b)
def Zoo:List (Lq)->Nat->Nat
 | [],v=>v
 | l :: ps,v=>Zoo ps (Zvt l v)
theorem Zih (j:Nat):Zdk j<4294967296:=by
 unfold Zdk Zff
 by_cases h:j<16
 ·have:∀ j:Fin 16,([0,498536548,997073096,651767980,1994146192,1802195444,1303535960,1342533948,3988292384,4027552580,3604390888,3412177804,2607071920,2262029012,2685067896,3183342108]:Lq).getD j.1 0<4294967296:=by decide
  exact this ⟨j,h⟩
 ·rw[List.getD_eq_getElem?_getD,List.getElem?_eq_none (by show 16<=j; omega)]
  decide
theorem Zk8 (j:Nat) (h:j<16):read1 16 [Zff.map fun (n:Nat)=>C.int .u32 (n:Int)] j=some (.int .u32 (Zdk j:Nat)):=by
 unfold read1
 rw[Nat.div_eq_of_lt h,Nat.mod_eq_of_lt h,List.getElem?_cons_zero]
 show (Zff.map fun (n:Nat)=>C.int .u32 (n:Int))[j]? = _
 rw[List.getElem?_map,Zdk]
 have:j<Zff.length:=h
 rw[List.getD_eq_getElem?_getD,List.getElem?_eq_getElem this]
 rfl
theorem Zmj {v:Nat} (h:v<4294967296):half v<4294967296:=Znz oM (Zih _)
theorem Zua {v b:Nat} (h:v<4294967296) (hb:b<256):Zyt v b<4294967296:=Zmj (Zmj (Znz h oM))
theorem Zl1:∀ {l:Lq} {v:Nat},v<4294967296->(∀ b∈l,b<256)->Zvt l v<4294967296
 | [],_,h,_=>h
 | b :: l,v,h,hb=>Zl1 (l:=l) (v:=Zyt v b) (Zua h (hb b (by simp))) fun c hc=>hb c (by simp [hc])
theorem glob0 (ts:Zw):Ba K ts (.global 0)=some (.w (.c (.ptr 0 0))):=by
 show Zud K 0=_
 kernel_rfl
theorem shr4 {v:Nat}:Zut .u32 (v:Int) 4=some (.int .u32 ((v / 16:Nat):Int)):=by
 show some (C.int .u32 ((v:Int).fdiv 16))=_
 rw[show (v:Int).fdiv 16=((v / 16:Nat):Int) by rw[Int.fdiv_eq_ediv_of_nonneg _ oM]; rfl]
theorem and15 {v:Nat} (hv:v<4294967296):Bc .u32 Nat.land (v:Int) 15=.int .u32 (Nat.land v 15:Nat):=Zq5 (b:=15) hv oM (Nat.lt_of_le_of_lt (Nat.and_le_right) oM)
theorem land15 (v:Nat):Nat.land v 15<16:=Nat.lt_of_le_of_lt (Nat.and_le_right) oM
section
variable (Hh:Hearts K Tryz.prog)
include Hh
theorem Z89 (h:Hq) (n off len:Nat) (o:O) (ho:h.get n=some o) (hst:h.get 0=some Bj) (hlen:len<4294967296):∀ (l:Lq) (i v:Nat) (ts:Zw),i+l.length=len->(∀ j (b:Nat),l[j]? = some b->b<256/\Zh ti5 (off+(i+j)) (some o)=some (.c (.int .u8 (b:Int))))->v<4294967296->Ze ts 14=.w (.c (.slice n off len 1))->Ze ts 15=.w (.c (.int .i64 len))->Ze ts 3=.w (.c (.int .u32 v))->Ze ts 16=.w (.c (.int .i64 i)) ->
  Z7 42 none (q206 [1,1,0,1,2,2,1,1,0,2,1,1,2]) [] ts h fun x ds' ts' h'=>x=.exit 2/\ds'=[]/\h'=h/\Ze ts' 3=.w (.c (.int .u32 (Zvt l v)))/\Ze ts' 8=Ze ts 8/\Ze ts' 9=Ze ts 9/\Ze ts' 10=Ze ts 10:=by
 intro l
 induction l with
 | nil =>
  intro i v ts hi hl hv h14 h15 h3 h16
  have d1:decide ((i:Int)<(len:Int))=false:=decide_eq_false (by simp at hi; omega)
  iterate 6 (first|apply Zu|apply Gr|apply J8|((first|apply Goes.Zl|apply Goes.ops2 fits Hh Za); · simp (decide:=true) only [go_sem,Zv,H.get_put,H.Zg,Zh,Z9,reduceIte,Nat.reduceAdd,Nat.reduceMul,Zz,Yb,asC,Zo,Yr,Yj,h15,h16,d1]<;>rfl))
  refine⟨rfl,rfl,rfl,?_,?_,?_,?_⟩<;>simp (decide:=true) only [Zo,reduceIte,h3,Zvt]
 | cons b l ih =>
  intro i v ts hi hl hv h14 h15 h3 h16
  simp only[List.length_cons] at hi
  have d1:decide ((i:Int)<(len:Int))=true:=decide_eq_true oM
  have w1:Jb .i64 ((i:Int)+1)=.int .i64 ((i+1:Nat):Int):=by rw[wrap64 oM oM]; congr 1
  have b1:Nat.blt i len=true:=Gb oM
  obtain⟨hb,ld⟩:=hl 0 b rfl
  rw[Nat.add_zero] at ld
  have w2:Jb .u32 (b:Int)=.int .u32 (b:Int):=Zdp oM
  have x1:=Zey hv (show b<4294967296 by omega)
  obtain⟨u,hu⟩:=xzE (Nat.xor v b)
  have hu':u<4294967296:=hu ▸ Znz hv oM
  rw[hu] at x1
  have s1:=@shr4 u
  have a1:=and15 hu'
  have b2:Nat.blt (Nat.land u 15) 16=true:=Gb (land15 u)
  have st1:Zh ti34 (Nat.land u 15) (some Bj)=some (.c (.int .u32 (Zdk (Nat.land u 15):Nat))):=by
   rw[Bj,Zh,Z8o,cond_false,Zk8 _ (land15 u)]
   rfl
  have x2:Bc .u32 Nat.xor ((u / 16:Nat):Int) ((Zdk (Nat.land u 15):Nat):Int)=.int .u32 (half u:Nat):=Zey oM (Zih _)
  obtain⟨t,ht⟩:=xzE (half u)
  have ht':t<4294967296:=ht ▸ Zmj hu'
  rw[ht] at x2
  have s2:=@shr4 t
  have a2:=and15 ht'
  have b3:Nat.blt (Nat.land t 15) 16=true:=Gb (land15 t)
  have st2:Zh ti34 (Nat.land t 15) (some Bj)=some (.c (.int .u32 (Zdk (Nat.land t 15):Nat))):=by
   rw[Bj,Zh,Z8o,cond_false,Zk8 _ (land15 t)]
   rfl
  have x3:Bc .u32 Nat.xor ((t / 16:Nat):Int) ((Zdk (Nat.land t 15):Nat):Int)=.int .u32 (Zyt v b:Nat):=by
   rw[Zyt,hu,ht]
   exact Zey oM (Zih _)
  iterate 16 (first|apply Zu|apply Ye|apply Jc|apply J8|((first|apply Goes.Zl|apply Goes.ops2 fits Hh Za); · simp (decide:=true) only [go_sem,Zv,H.get_put,H.Zg,Z9,reduceIte,Nat.reduceAdd,Nat.reduceMul,Zz,Yb,asC,Zo,Yr,Yj,h14,h15,h3,h16,d1,w1,w2,b1,ho,ld,x1,s1,a1,b2,hst,st1,x2,s2,a2,b3,st2,x3,Nk,Rh,Z50,Zl4,Z9c,Qz,Ybe,Z45,Z6r,glob0,Nat.beq_refl,Nat.mul_one,Nat.zero_add]<;>rfl))
  show Z7 42 none (.loop (q206 [1,1,0,1,2,2,1,1,0,2,1,1,2,2])) _ _ _ _
  rw[<-Zb7]
  refine (ih (i+1) _ _ oM (fun j c hc=>?_) (Zua hv hb) ?_ ?_ ?_ ?_).mono ?_
  ·have:=hl (j+1) c (by simpa using hc)
   rwa [show i+(j+1)=i+1+j by omega] at this
  ·exact tZ h14
  ·exact tZ h15
  ·exact tY
  ·exact tY
  ·rintro x ds' ts' h' ⟨e1,e2,e3,e4,e5,e6,e7⟩
   refine⟨e1,e2,e3,e4,?_,?_,?_⟩
   ·rw[e5]; simp (decide:=true) only [Zo,reduceIte]
   ·rw[e6]; simp (decide:=true) only [Zo,reduceIte]
   ·rw[e7]; simp (decide:=true) only [Zo,reduceIte]
def Holds (h:Hq) (c:C) (l:Lq):Prop:=∃ n off o,c=.slice n off l.length 1/\h.get n=some o/\l.length<4294967296/\∀ j (b:Nat),l[j]? = some b->b<256/\Zh ti5 (off+j) (some o)=some (.c (.int .u8 (b:Int)))
omit Hh in
theorem Holds.lt {h:Hq} {c:C} {l:Lq} (H:Holds h c l):∀ b∈l,b<256:=fun b hb=>by
 obtain⟨_,_,_,_,_,_,hl⟩:=H
 obtain⟨j,hj⟩:=List.getElem?_of_mem hb
 exact (hl j b hj).1
theorem Z6m (h:Hq) (n m:Nat) (cs:List C) (ro:Bool) (ho:h.get n=some (.row 1 (cs.map fun c=>[c]) ro)) (hst:h.get 0=some Bj) (hm:cs.length=m) (hm':m<4294967296):∀ (ps:List (Lq)) (i v:Nat) (ts:Zw),i+ps.length=m->(∀ (j:Nat) (l:Lq),ps[j]? = some l->∃ c,cs[i+j]? = some c/\Holds h c l)->v<4294967296->Ze ts 8=.w (.c (.slice n 0 m 1))->Ze ts 9=.w (.c (.int .i64 m))->Ze ts 3=.w (.c (.int .u32 v))->Ze ts 10=.w (.c (.int .i64 i)) ->
  Z7 42 none (q206 [1,1,0,1,2]) [] ts h fun x ds' ts' h'=>x=.exit 0/\ds'=[]/\h'=h/\Ze ts' 3=.w (.c (.int .u32 (Zoo ps v)))/\Zoo ps v<4294967296:=by
 intro ps
 induction ps with
 | nil =>
  intro i v ts hi hl hv h8 h9 h3 h10
  have d1:decide ((i:Int)<(m:Int))=false:=decide_eq_false (by simp at hi; omega)
  iterate 6 (first|apply Zu|apply Gr|apply J8|((first|apply Goes.Zl|apply Goes.ops2 fits Hh Za); · simp (decide:=true) only [go_sem,Zv,H.get_put,H.Zg,Zh,Z9,reduceIte,Nat.reduceAdd,Nat.reduceMul,Zz,Yb,asC,Zo,Yr,Yj,h9,h10,d1]<;>rfl))
  refine⟨rfl,rfl,rfl,?_,hv⟩
  simp (decide:=true) only [Zo,reduceIte,h3,Zoo]
 | cons l ps ih =>
  intro i v ts hi hl hv h8 h9 h3 h10
  simp only[List.length_cons] at hi
  have d1:decide ((i:Int)<(m:Int))=true:=decide_eq_true oM
  have b1:Nat.blt i m=true:=Gb oM
  obtain⟨c,hc,hold⟩:=hl 0 l rfl
  have hlt:=hold.lt
  obtain⟨a,off,o,rfl,hao,hll,hby⟩:=hold
  rw[Nat.add_zero] at hc
  have rd:read1 1 (cs.map fun c=>[c]) i=some (.slice a off l.length 1):=by
   unfold read1
   rw[Nat.div_one,Nat.mod_one,List.getElem?_map,hc]
   rfl
  have fl:Yx K 141 (.c (.slice a off l.length 1))=true:=by unfold Yx; rw[Nk]; rfl
  iterate 12 (first|apply Zu|apply Ye|apply Jc|apply J8|((first|apply Goes.Zl|apply Goes.ops2 fits Hh Za); · simp (decide:=true) only [go_sem,Zv,H.get_put,H.Zg,Zh,Z9,reduceIte,Nat.reduceAdd,Nat.reduceMul,Zz,Yb,asC,Zo,Yr,Yj,h8,h9,h3,h10,d1,b1,ho,rd,fl,Zqc,Z3d,Nk,Z76,Z54,Zt,J5,cW,Nat.beq_refl,Nat.mul_one,Nat.zero_add]<;>rfl))
  show Z7 42 none (q206 [1,1,0,1,2,2,1,1,0,2,1,1]) _ _ _ _
  rw[Zdb]
  refine Jc ((Z89 Hh h a off l.length o hao hst hll l 0 v _ oM ?_ hv ?_ ?_ ?_ ?_).mono ?_)
  ·intro j b hb
   rw[Nat.zero_add]
   exact hby j b hb
  ·exact tY
  ·exact tY
  ·exact tZ h3
  ·exact tX
  rintro x ds' ts' h' ⟨rfl,rfl,rfl,e3,e8,e9,e10⟩
  have f8:Ze ts' 8=.w (.c (.slice n 0 m 1)):=by rw[e8]; simp (decide:=true) only [Zo,reduceIte,h8]
  have f9:Ze ts' 9=.w (.c (.int .i64 m)):=by rw[e9]; simp (decide:=true) only [Zo,reduceIte,h9]
  have f10:Ze ts' 10=.w (.c (.int .i64 i)):=by rw[e10]; simp (decide:=true) only [Zo,reduceIte,h10]
  have w1:Jb .i64 ((i:Int)+1)=.int .i64 ((i+1:Nat):Int):=by rw[wrap64 oM oM]; congr 1
  (apply Goes.ops2 fits Hh Za; · simp (decide:=true) only [go_sem,Zv,H.get_put,H.Zg,Zh,Z9,reduceIte,Nat.reduceAdd,Nat.reduceMul,f10,w1]<;>rfl)
  show Z7 42 none (.loop (q206 [1,1,0,1,2,2])) _ _ _ _
  rw[<-Zr5]
  refine ih (i+1) _ _ oM (fun j l' hj=>?_) (Zl1 hv hlt) ?_ ?_ ?_ ?_
  ·have:=hl (j+1) l' (by simpa using hj)
   rwa [show i+(j+1)=i+1+j by omega] at this
  ·exact tZ f8
  ·exact tZ f9
  ·exact tZ e3
  ·exact tY
theorem Z9a (h:Hq) (n:Nat) (cs:List C) (ro:Bool) (ps:List (Lq)) (ho:h.get n=some (.row 1 (cs.map fun c=>[c]) ro)) (hst:h.get 0=some Bj) (hm:cs.length=ps.length) (hm':ps.length<4294967296) (hl:∀ (j:Nat) (l:Lq),ps[j]? = some l->∃ c,cs[j]? = some c/\Holds h c l) :
  Zi 206 [.c (.slice n 0 ps.length 1)] h (.w (.c (.int .u32 (Nat.xor 4294967295 (Zoo ps 4294967295):Nat)))) h:=by
 have e0:Ze (U2 0 [.c (.slice n 0 ps.length 1)] .nil) 0=.w (.c (.slice n 0 ps.length 1)):=by rw[Gl]; rfl
 refine Zy.goes fits Hh kR kR kR (show Tryz.f206.body=some (q206 []) by kernel_rfl) rfl ?_
 have e1:Tryz.f206.results.toList=[.tmp 2]:=rfl
 have fl:Yx K 350 (.c (.slice n 0 ps.length 1))=true:=by unfold Yx; rw[Zqc]; rfl
 show Z7 42 none _ _ _ _ _
 iterate 8 (first|apply Zu|apply Jc|(apply Goes.ops2 fits Hh Za; · simp (decide:=true) only [go_sem,Zv,H.get_put,H.Zg,Zh,Z9,reduceIte,Nat.reduceAdd,Nat.reduceMul,e0,fl,Zt,J5]<;>rfl))
 show Z7 42 none (q206 [1,1,0,1,2]) _ _ _ _
 refine (Z6m Hh h n ps.length cs ro ho hst hm hm' ps 0 4294967295 _ oM ?_ oM ?_ ?_ ?_ ?_).mono ?_
 ·intro j l hj
  rw[Nat.zero_add]
  exact hl j l hj
 ·exact tY
 ·exact tY
 ·exact tX
 ·exact tX
 rintro x ds' ts' h' ⟨rfl,rfl,rfl,e3,hlt⟩
 have x1:Bc .u32 Nat.xor IntKind.u32.max (Zoo ps 4294967295:Nat)=.int .u32 (Nat.xor 4294967295 (Zoo ps 4294967295):Nat):=Zey (a:=4294967295) oM hlt
 iterate 3 (first|apply Zu|apply Yc|(apply Goes.ops2 fits Hh Za; · simp (decide:=true) only [go_sem,Zv,H.get_put,H.Zg,Zh,Z9,reduceIte,Nat.reduceAdd,Nat.reduceMul,e3,x1]<;>rfl))
 simp (decide:=true) only [D5,Jt,finish,e1,Jo,evalW,Yb,asW,Zo,reduceIte,O0]
def Zd0:Lq->Bool
 | []=>true
 | b :: l=>bif Nat.beq b 0 then Zd0 l else false
theorem zero0 (h:Hq) (n off len:Nat) (o:O) (ho:h.get n=some o) (hlen:len<4294967296):∀ (l:Lq) (i:Nat) (ts:Zw),i+l.length=len->(∀ j (b:Nat),l[j]? = some b->b<256/\Zh ti5 (off+(i+j)) (some o)=some (.c (.int .u8 (b:Int))))->Ze ts 5=.w (.c (.slice n off len 1))->Ze ts 6=.w (.c (.int .i64 len))->Ze ts 7=.w (.c (.int .i64 i)) ->
  Z7 14 none (q75 [1,0,1,2]) [] ts h fun x ds' ts' h'=>ds'=[]/\h'=h/\(Zd0 l=true/\x=.exit 0\/Zd0 l=false/\x=.ret/\Ze ts' 2=.w (.c (.bool false))):=by
 intro l
 induction l with
 | nil =>
  intro i ts hi hl h5 h6 h7
  have d1:decide ((i:Int)<(len:Int))=false:=decide_eq_false (by simp at hi; omega)
  iterate 6 (first|apply Zu|apply Gr|apply J8|((first|apply Goes.Zl|apply Goes.ops2 fits Hh Za); · simp (decide:=true) only [go_sem,Zv,H.get_put,H.Zg,Zh,Z9,reduceIte,Nat.reduceAdd,Nat.reduceMul,Zz,Yb,asC,Zo,Yr,Yj,h6,h7,d1]<;>rfl))
  exact⟨rfl,rfl,.inl ⟨rfl,rfl⟩⟩
 | cons b l ih =>
  intro i ts hi hl h5 h6 h7
  simp only[List.length_cons] at hi
  have d1:decide ((i:Int)<(len:Int))=true:=decide_eq_true oM
  have w1:Jb .i64 ((i:Int)+1)=.int .i64 ((i+1:Nat):Int):=by rw[wrap64 oM oM]; congr 1
  have b1:Nat.blt i len=true:=Gb oM
  obtain⟨hb,ld⟩:=hl 0 b rfl
  rw[Nat.add_zero] at ld
  by_cases b0:b=0
  ·subst b0
   have z:(((0:Nat):Int) != 0)=false:=rfl
   iterate 15 (first|apply Zu|apply Ye|apply Jc|apply J8|((first|apply Goes.Zl|apply Goes.ops2 fits Hh Za); · simp (decide:=true) only [go_sem,Zv,H.get_put,H.Zg,Z9,reduceIte,Nat.reduceAdd,Nat.reduceMul,Zz,Yb,asC,Zo,Yr,Yj,h5,h6,h7,d1,w1,b1,ho,ld,z,Nk,Rh,Zl4,Qz,Nat.beq_refl,Nat.mul_one]<;>rfl))
   show Z7 14 none (.loop (q75 [1,0,1,2,2])) _ _ _ _
   rw[<-Z0j]
   refine ih (i+1) _ oM (fun j c hc=>?_) ?_ ?_ ?_
   ·have:=hl (j+1) c (by simpa using hc)
    rwa [show i+(j+1)=i+1+j by omega] at this
   ·exact tZ h5
   ·exact tZ h6
   ·exact tY
  ·have z:((b:Int) != 0)=true:=by simpa using b0
   iterate 16 (first|apply Zu|apply Ye|apply Jc|apply Yc|apply J8|((first|apply Goes.Zl|apply Goes.ops2 fits Hh Za); · simp (decide:=true) only [go_sem,Zv,H.get_put,H.Zg,Z9,reduceIte,Nat.reduceAdd,Nat.reduceMul,Zz,Yb,asC,Zo,Yr,Yj,h5,h6,h7,d1,w1,b1,ho,ld,z,Nk,Rh,Zl4,Qz,Nat.beq_refl,Nat.mul_one]<;>rfl))
   refine⟨rfl,rfl,.inr ⟨?_,rfl,?_⟩⟩
   ·have:Nat.beq b 0=false:=by
     cases e:Nat.beq b 0 with
     | false=>rfl
     | true=>exact absurd (bQ e) b0
    simp only[Zd0,this,cond_false]
   ·exact tY
theorem Z2c (h:Hq) (c:C) (l:Lq) (hold:Holds h c l):Zi 75 [.c c] h (.w (.c (.bool (Zd0 l)))) h:=by
 obtain⟨n,off,o,rfl,ho,hlen,hl⟩:=hold
 have e0:Ze (U2 0 [.c (.slice n off l.length 1)] .nil) 0=.w (.c (.slice n off l.length 1)):=by rw[Gl]; rfl
 refine Zy.goes fits Hh kR kR kR (show Tryz.f75.body=some (q75 []) by kernel_rfl) rfl ?_
 have e1:Tryz.f75.results.toList=[.tmp 2]:=rfl
 have fl:Yx K 141 (.c (.slice n off l.length 1))=true:=by unfold Yx; rw[Nk]; rfl
 show Z7 14 none _ _ _ _ _
 iterate 6 (first|apply Zu|apply Jc|(apply Goes.ops2 fits Hh Za; · simp (decide:=true) only [go_sem,Zv,H.get_put,H.Zg,Zh,Z9,reduceIte,Nat.reduceAdd,Nat.reduceMul,e0,fl,Zt,J5]<;>rfl))
 show Z7 14 none (q75 [1,0,1,2]) _ _ _ _
 refine (zero0 Hh h n off l.length o ho hlen l 0 _ oM ?_ ?_ ?_ ?_).mono ?_
 ·intro j b hb
  rw[Nat.zero_add]
  exact hl j b hb
 ·exact tY
 ·exact tY
 ·exact tX
 rintro x ds' ts' h' ⟨rfl,rfl,⟨hz,rfl⟩|⟨hz,rfl,h2⟩⟩
 ·rw[hz]
  iterate 3 (first|apply Zu|apply Yc|(apply Goes.ops2 fits Hh Za; · simp (decide:=true) only [go_sem,Zv,H.get_put,H.Zg,Zh,Z9,reduceIte,Nat.reduceAdd,Nat.reduceMul]<;>rfl))
  simp (decide:=true) only [D5,Jt,finish,e1,Jo,evalW,Yb,asW,Zo,reduceIte,O0]
 ·rw[hz]
  show leave K Tryz.f75 (some (.at .ret [] ts' h'))=_
  simp (decide:=true) only [D5,Jt,finish,e1,Jo,evalW,Yb,asW,h2,O0]
end
def Z24 (off len:Nat):Option O->Option (Lq)
 | some (.row sz els _)=>bif Nat.ble (off % sz+len) sz&&Nat.blt len 4294967296 then (match Zk sz els off len with
  | some l=>Oc l
  | none=>none) else none
 | _=>none
def Zt3 (h:Hq):C->Option (Lq)
 | .slice n off len 1=>Z24 off len (h.get n)
 | _=>none
def Zoj:List (List C)->Option (List C)
 | []=>some []
 | [c] :: l=>match Zoj l with
  | some r=>some (c :: r)
  | none=>none
 | _=>none
def Zpo (h:Hq):List C->Option (List (Lq))
 | []=>some []
 | c :: l=>match Zt3 h c with
  | some b=>(match Zpo h l with
   | some r=>some (b :: r)
   | none=>none)
  | none=>none
def L8:Option O->Bool
 | some (.row 16 [l] true)=>(match Y4 l [.int .u32 0,.int .u32 498536548,.int .u32 997073096,.int .u32 651767980,.int .u32 1994146192,.int .u32 1802195444,.int .u32 1303535960,.int .u32 1342533948,.int .u32 3988292384,.int .u32 4027552580,.int .u32 3604390888,.int .u32 3412177804,.int .u32 2607071920,.int .u32 2262029012,.int .u32 2685067896,.int .u32 3183342108] with
  | some true=>true
  | _=>false)
 | _=>false
theorem Zkc:∀ {a b:List C},Y4 a b=some true->a=b
 | [],[],_=>rfl
 | .int k x :: a,.int k' y :: b,h=>by
  simp only[Y4] at h
  split at h
  ·rename_i hk
   subst hk
   cases hxy:(x == y) with
   | false=>rw[hxy] at h; cases h
   | true =>
    rw[hxy] at h
    have:x=y:=by simpa using hxy
    rw[this,Zkc h]
  ·cases h
 | [],_ :: _,h=>by simp [Y4] at h
 | .int _ _ :: _,[],h=>by simp [Y4] at h
 | .bool _ :: _,_,h=>by simp [Y4] at h
 | .str _ :: _,_,h=>by simp [Y4] at h
 | .ptr _ _ :: _,_,h=>by simp [Y4] at h
 | .pnil :: _,_,h=>by simp [Y4] at h
 | .slice _ _ _ _ :: _,_,h=>by simp [Y4] at h
 | .snil :: _,_,h=>by simp [Y4] at h
 | .map _ :: _,_,h=>by simp [Y4] at h
 | .mnil :: _,_,h=>by simp [Y4] at h
 | .fn _ _ _ :: _,_,h=>by simp [Y4] at h
 | .yield _ :: _,_,h=>by simp [Y4] at h
 | .nilFn :: _,_,h=>by simp [Y4] at h
 | .int _ _ :: _,.bool _ :: _,h=>by simp [Y4] at h
 | .int _ _ :: _,.str _ :: _,h=>by simp [Y4] at h
 | .int _ _ :: _,.ptr _ _ :: _,h=>by simp [Y4] at h
 | .int _ _ :: _,.pnil :: _,h=>by simp [Y4] at h
 | .int _ _ :: _,.slice _ _ _ _ :: _,h=>by simp [Y4] at h
 | .int _ _ :: _,.snil :: _,h=>by simp [Y4] at h
 | .int _ _ :: _,.map _ :: _,h=>by simp [Y4] at h
 | .int _ _ :: _,.mnil :: _,h=>by simp [Y4] at h
 | .int _ _ :: _,.fn _ _ _ :: _,h=>by simp [Y4] at h
 | .int _ _ :: _,.yield _ :: _,h=>by simp [Y4] at h
 | .int _ _ :: _,.nilFn :: _,h=>by simp [Y4] at h
theorem Lm {o:Option O} (h:L8 o=true):o=some Bj:=by
 unfold L8 at h
 split at h
 ·rename_i l
  split at h
  ·rename_i e
   rw[Zkc e]
   rfl
  ·cases h
 ·cases h
def Yat (h:Hq):Option (List (Lq))->Option (V × Hq)
 | some ps=>bif Nat.blt ps.length 4294967296 then some (.w (.c (.int .u32 (Nat.xor 4294967295 (Zoo ps 4294967295):Nat))),h) else none
 | none=>none
def Yar (h:Hq):Option (List C)->Option (V × Hq)
 | some cs=>Yat h (Zpo h cs)
 | none=>none
def Yas (h:Hq) (len:Nat):Option O->Option (V × Hq)
 | some (.row 1 els _)=>bif Nat.beq els.length len&&L8 (h.get 0) then Yar h (Zoj els) else none
 | _=>none
def Ybf (args:List W) (h:Hq):Option (V × Hq):=match args with
 | [.c (.slice n 0 len 1)]=>Yas h len (h.get n)
 | _=>none
def zeroV (h:Hq):Option (Lq)->Option (V × Hq)
 | some l=>some (.w (.c (.bool (Zd0 l))),h)
 | none=>none
def Yal (args:List W) (h:Hq):Option (V × Hq):=match args with
 | [.c c]=>zeroV h (Zt3 h c)
 | _=>none
section
variable (Hh:Hearts K Tryz.prog)
include Hh
end
open Go.Ev
theorem ty141:K.types.get 141=some ti141:=kR
theorem sz141:ti141.size=1:=by rfl
theorem ag141:ti141.agg=false:=by rfl
theorem de141:ti141.desc=(.slice 5):=by rfl
theorem ze141:ti141.zero=(.c (.snil)):=by rfl
theorem by141:ti141.bytes=24:=by rfl
theorem el141:Y7 K 141=some ti5:=kR
theorem ty311:K.types.get 311=some ti311:=kR
theorem sz311:ti311.size=1:=by rfl
theorem ag311:ti311.agg=false:=by rfl
theorem de311:ti311.desc=(.int .u16):=by rfl
theorem ze311:ti311.zero=(.c (.int .u16 0)):=by rfl
theorem by311:ti311.bytes=2:=by rfl
theorem ke311 (k:IntKind) (n:Int):Fe K 20 311 (.c (.int k n))=true:=kR
attribute [go_sem] ty141 sz141 ag141 de141 ze141 by141 el141 ty311 sz311 ag311 de311 ze311 by311 ke311
noncomputable def q74 (p:Lq):Code:=piece p (Ug Tryz.f74)
theorem rs170:Tryz.f170.results.toList=[.tmp 6]:=rfl
theorem rs134:Tryz.f134.results.toList=[.tmp 8]:=rfl
theorem rs264:Tryz.f264.results.toList=[.tmp 6]:=rfl
theorem rs74:Tryz.f74.results.toList=[.tmp 6]:=rfl
theorem rs207:Tryz.f207.results.toList=[.tmp 6,.tmp 7]:=rfl
theorem rs159:Tryz.f159.results.toList=[.tmp 4,.tmp 5]:=rfl
theorem rs123:Tryz.f123.results.toList=[.tmp 6,.tmp 7]:=rfl
theorem rs60:Tryz.f60.results.toList=[.tmp 4,.tmp 5]:=rfl
attribute [go_sem] rs170 rs134 rs264 rs74 rs207 rs159 rs123 rs60
def pgL (ns:Lq):List C:=ns.map fun n=>.int .u8 ((n % 256:Nat):Int)
def Yax:C->Nat
 | .int _ (.ofNat n)=>n
 | _=>0
def unN (x:List C):Lq:=x.map Yax
def byC:C->Bool
 | .int .u8 (.ofNat n)=>Nat.blt n 256
 | _=>false
def Zlu (x:List C):Bool:=x.all byC
def atN (ns:Lq) (i:Nat):Nat:=ns.getD i 0 % 256
def Er (ns:Lq) (i v:Nat):Lq:=(ns.set i v).set (i+1) (v / 256)
def Jd (ns:Lq) (i v:Nat):Lq:=(((ns.set i v).set (i+1) (v / 256)).set (i+2) (v / 256 / 256)).set (i+3) (v / 256 / 256 / 256)
def Ed (ns:Lq) (i:Nat):Nat:=atN ns i+256 * atN ns (i+1)
def Yq (ns:Lq) (i:Nat):Nat:=atN ns i+256 * (atN ns (i+1)+256 * (atN ns (i+2)+256 * atN ns (i+3)))
def Qa (ns:Lq):Nat:=Nat.xor 4294967295 (Zvt ((ns.take 252).map (· % 256)) 4294967295)
def Fv (ns:Lq) (a n:Nat):Bool:=Zd0 (((ns.drop a).take n).map (· % 256))
theorem Z23 {c:C} (h:byC c=true):∃ n,n<256/\c=.int .u8 ((n % 256:Nat):Int):=by
 unfold byC at h
 split at h
 ·rename_i n
  have hn:n<256:=by simpa [Nat.blt_eq] using h
  exact⟨n,hn,by rw[Nat.mod_eq_of_lt hn]; rfl⟩
 ·cases h
theorem Zfs:∀ {x:List C},Zlu x=true->∃ ns,x=pgL ns/\ns.length=x.length
 | [],_=>⟨[],rfl,rfl⟩
 | c :: x,h=>by
  have h':(byC c&&Zlu x)=true:=h
  rw[aQ] at h'
  obtain⟨n,_,e⟩:=Z23 h'.1
  obtain⟨ns,e2,e3⟩:=Zfs h'.2
  exact⟨n :: ns,by rw[e,e2]; rfl,by rw[List.length_cons,List.length_cons,e3]⟩
theorem Wy:∀ ns:Lq,Zlu (pgL ns)=true
 | []=>rfl
 | n :: ns=>by
  show (Nat.blt (n % 256) 256&&Zlu (pgL ns))=true
  rw[Wy ns,Bool.and_true]
  have:=Nat.mod_lt n (show 256 > 0 by omega)
  simpa [Nat.blt_eq] using this
theorem V8:∀ ns:Lq,(pgL ns).all C.flat=true
 | []=>rfl
 | n :: ns=>V8 ns
theorem Oz (ns:Lq):(pgL ns).length=ns.length:=by simp [pgL]
theorem Zc9 (ns:Lq) (i v:Nat):(Er ns i v).length=ns.length:=by simp [Er]
theorem Qx (ns:Lq) (i v:Nat):(Jd ns i v).length=ns.length:=by simp [Jd]
theorem Lt (ns:Lq) (i v:Nat):(pgL ns).set i (.int .u8 ((v % 256:Nat):Int))=pgL (ns.set i v):=by rw[pgL,pgL,List.map_set]
theorem Gh (ns:Lq):unN (pgL ns)=ns.map (· % 256):=by
 unfold unN pgL
 rw[List.map_map]
 rfl
theorem Zrz (ns:Lq):pgL (ns.map (· % 256))=pgL ns:=by
 unfold pgL
 rw[List.map_map]
 refine List.map_congr_left fun n _=>?_
 show C.int .u8 ((n % 256 % 256:Nat):Int)=_
 rw[Nat.mod_mod]
theorem Zku (ns:Lq) (i v:Nat):pgL ((ns.map (· % 256)).set i v)=pgL (ns.set i v):=by
 rw[<-Lt,Zrz,Lt]
theorem Zh7 (ns:Lq) (i v:Nat):pgL (Er (ns.map (· % 256)) i v)=pgL (Er ns i v):=by
 unfold Er
 rw[<-Lt,Zku,Lt]
theorem Vd (ns:Lq) (i v:Nat):pgL (Jd (ns.map (· % 256)) i v)=pgL (Jd ns i v):=by
 unfold Jd
 rw[<-Lt,<-Lt,<-Lt,Zku,Lt,Lt,Lt]
theorem Zyd (ns:Lq) (i:Nat):atN (ns.map (· % 256)) i=atN ns i:=by
 unfold atN
 rw[List.getD_eq_getElem?_getD,List.getD_eq_getElem?_getD,List.getElem?_map]
 cases ns[i]? with
 | none=>rfl
 | some n=>show n % 256 % 256=n % 256; rw[Nat.mod_mod]
theorem Qj (ns:Lq) (i:Nat):Ed (ns.map (· % 256)) i=Ed ns i:=by simp only[Ed,Zyd]
theorem Tm (ns:Lq) (i:Nat):Yq (ns.map (· % 256)) i=Yq ns i:=by simp only[Yq,Zyd]
theorem Zzw (ns:Lq):(ns.map (· % 256)).map (· % 256)=ns.map (· % 256):=by
 rw[List.map_map]
 refine List.map_congr_left fun n _=>?_
 show n % 256 % 256=n % 256
 rw[Nat.mod_mod]
theorem Zaf (ns:Lq):Qa (ns.map (· % 256))=Qa ns:=by
 unfold Qa
 rw[<-List.map_take,Zzw]
theorem Zbb (ns:Lq) (a n:Nat):Fv (ns.map (· % 256)) a n=Fv ns a n:=by
 unfold Fv
 rw[<-List.map_drop,<-List.map_take,Zzw]
theorem Ta (ns:Lq) (i:Nat):atN ns i<256:=Nat.mod_lt _ oM
theorem Zuh (ns:Lq) (i:Nat):Yq ns i<4294967296:=by
 have h1:=Ta ns i
 have h2:=Ta ns (i+1)
 have h3:=Ta ns (i+2)
 have h4:=Ta ns (i+3)
 unfold Yq
 omega
theorem Zug (ns:Lq) (i:Nat):Ed ns i<65536:=by
 have h1:=Ta ns i
 have h2:=Ta ns (i+1)
 unfold Ed
 omega
theorem Zyu (ns:Lq):Qa ns<4294967296:=Znz oM (Zl1 oM fun b hb=>by
 obtain⟨n,_,rfl⟩:=List.mem_map.1 hb
 have:=Nat.mod_lt n (show 256 > 0 by omega)
 exact this)
theorem Z7u {ns:Lq} {i:Nat} (h:i<ns.length):(pgL ns)[i]? = some (.int .u8 ((atN ns i:Nat):Int)):=by
 unfold pgL atN
 rw[List.getElem?_map,List.getD_eq_getElem?_getD,List.getElem?_eq_getElem h]
 rfl
theorem Zr7 {ns:Lq} {i:Nat} (h:i<256/\256<=ns.length):read1 256 [pgL ns] i=some (.int .u8 ((atN ns i:Nat):Int)):=by
 unfold read1
 rw[Nat.div_eq_of_lt h.1,Nat.mod_eq_of_lt h.1]
 exact Z7u oM
theorem Yak {ns:Lq} {i v:Nat} (h:i<256/\256<=ns.length):Z5 256 [pgL ns] i [.int .u8 ((v % 256:Nat):Int)]=some [pgL (ns.set i v)]:=by
 simp only[Z5]
 rw[Nat.div_eq_of_lt h.1,Nat.mod_eq_of_lt h.1,List.getElem?_cons_zero]
 simp only[Oz]
 rw[Zci oM,cond_true,Lt]
 rfl
theorem shr8 {v:Nat}:Zut .u32 (v:Int) 8=some (.int .u32 ((v / 256:Nat):Int)):=by
 show some (C.int .u32 ((v:Int).fdiv 256))=_
 rw[show (v:Int).fdiv 256=((v / 256:Nat):Int) by rw[Int.fdiv_eq_ediv_of_nonneg _ oM]; rfl]
theorem wr8 {v:Nat}:Jb .u8 (v:Int)=.int .u8 ((v % 256:Nat):Int):=by
 rw[Z05]
 rfl
theorem shl8 {v:Nat} (h:v<16777216):Zbn .u32 (v:Int) 8=some (.int .u32 ((v * 256:Nat):Int)):=by
 unfold Zbn
 have e:min (8:Int).toNat IntKind.u32.bits=8:=rfl
 rw[e]
 show some (Jb .u32 ((v:Int) * 256))=_
 rw[Zdq oM]
 rfl
theorem Zzs {v b:Nat} (hb:b<256):Nat.lor (v * 256) b=b+256 * v:=by
 have:=Nat.two_pow_add_eq_or_of_lt (i:=8) hb v
 rw[show (2:Nat) ^ 8 * v=v * 256 by omega] at this
 show v * 256 ||| b=_
 omega
theorem or8 {v b:Nat} (h:v<16777216) (hb:b<256):Bc .u32 Nat.lor ((v * 256:Nat):Int) (b:Int)=.int .u32 ((b+256 * v:Nat):Int):=by
 rw[Zq5 oM oM (by rw[Zzs hb]; omega),Zzs hb]
theorem sh16 {v:Nat} (h:v<256):Zbn .u16 (v:Int) 8=some (.int .u16 ((v * 256:Nat):Int)):=by
 unfold Zbn
 have e:min (8:Int).toNat IntKind.u16.bits=8:=rfl
 rw[e]
 show some (Jb .u16 ((v:Int) * 256))=_
 rw[Zin oM]
 rfl
theorem or16 {v b:Nat} (h:v<256) (hb:b<256):Bc .u16 Nat.lor ((v * 256:Nat):Int) (b:Int)=.int .u16 ((b+256 * v:Nat):Int):=by
 have e1:(((v * 256:Nat):Int) % 2 ^ IntKind.bits .u16).toNat=v * 256:=by show (((v * 256:Nat):Int) % 65536).toNat=v * 256; omega
 have e2:((b:Int) % 2 ^ IntKind.bits .u16).toNat=b:=by show ((b:Int) % 65536).toNat=b; omega
 unfold Bc
 rw[e1,e2,Zzs hb]
 exact Zin oM
def F5 (h:Hq) (p:Nat):Option (List C):=match h.get p with
 | some (.row s [x] ro)=>Yt (Nat.beq s 256&&!ro&&Nat.beq x.length 256&&Zlu x) (some x)
 | _=>none
theorem Zzy (n:Nat):U8 (no_index (@OfNat.ofNat Int n instOfNat))=some (@OfNat.ofNat Nat n (instOfNatNat n)):=by
 show U8 (n:Int)=some n
 exact Zhu n
theorem Js {h:Hq} {p:Nat} {x:List C} (e:F5 h p=some x):∃ ns,x=pgL ns/\ns.length=256/\h.get p=some (.row 256 [pgL ns] false):=by
 unfold F5 at e
 split at e
 ·rename_i s y ro heq
  obtain⟨b,e⟩:=Zq.1 e
  cases e
  simp only[aQ,Bool.not_eq_true'] at b
  obtain⟨⟨⟨b1,rfl⟩,b3⟩,b4⟩:=b
  obtain rfl:=bQ b1
  obtain⟨ns,rfl,e2⟩:=Zfs b4
  exact⟨ns,rfl,by rw[e2]; exact bQ b3,heq⟩
 ·cases e
def Znx:Kn1:=fun args h=>match args with
 | [.c (.int .i64 n),.c (.int .i64 a),.c (.int .i64 s)]=>Yt (decide (0<=n)&&decide (n<4096)&&decide (0<=a)&&decide (0<=s)&&decide (a+s<=n)) (some (.w (.c (.bool true)),h))
 | _=>none
def Zs6:Kn1:=fun args h=>match args with
 | [.c (.slice p off len 1),.c (.int .i64 a),.c (.int .u32 v)]=>(U8 a).bind fun a=>(U8 v).bind fun v=>(F5 h p).bind fun x=>Yt (decide (off+len<=256)&&decide (a+2<=len)&&decide (v<65536)) (some (.w (.c (.bool true)),h.put p (.row 256 [pgL (Er (unN x) (off+a) v)] false)))
 | _=>none
def Zs7:Kn1:=fun args h=>match args with
 | [.c (.slice p off len 1),.c (.int .i64 a),.c (.int .u32 v)]=>(U8 a).bind fun a=>(U8 v).bind fun v=>(F5 h p).bind fun x=>Yt (decide (off+len<=256)&&decide (a+4<=len)&&decide (v<4294967296)) (some (.w (.c (.bool true)),h.put p (.row 256 [pgL (Jd (unN x) (off+a) v)] false)))
 | _=>none
def Zss:Kn1:=fun args h=>match args with
 | [.c (.slice p off len 1),.c (.int .i64 a)]=>(U8 a).bind fun a=>(F5 h p).bind fun x=>Yt (decide (off+len<=256)&&decide (a+2<=len)) (some (.tup [.c (.int .u32 ((Ed (unN x) (off+a):Nat):Int)),.c (.bool true)],h))
 | _=>none
def Zst:Kn1:=fun args h=>match args with
 | [.c (.slice p off len 1),.c (.int .i64 a)]=>(U8 a).bind fun a=>(F5 h p).bind fun x=>Yt (decide (off+len<=256)&&decide (a+4<=len)) (some (.tup [.c (.int .u32 ((Yq (unN x) (off+a):Nat):Int)),.c (.bool true)],h))
 | _=>none
def Z13:Kn1:=fun args h=>match args with
 | [.c (.slice n 0 m 1)]=>match h.get n with
  | some (.row s [[.slice p 0 l z]] _)=>(F5 h p).bind fun x=>Yt (Nat.beq m 1&&Nat.beq s 1&&Nat.beq l 252&&Nat.beq z 1&&L8 (h.get 0)) (some (.w (.c (.int .u32 ((Qa (unN x):Nat):Int))),h))
  | _=>none
 | _=>none
def Z8l:Kn1:=fun args h=>match args with
 | [.c (.slice p off len 1)]=>(F5 h p).bind fun x=>Yt (decide (off+len<=256)) (some (.w (.c (.bool (Fv (unN x) off len))),h))
 | _=>none
attribute [go_sem] Oz Zc9 Qx Gh Zh7 Vd Qj Tm Zaf Zbb Wy F5 Znx Zs6 Zs7 Zss Zst Z13 Z8l Zr7 Zzy
theorem Z33 (p o l:Nat):Yx K 141 (.c (.slice p o l 1))=true:=kR
attribute [go_sem] Z33
theorem Z0w:L8 (some Bj)=true:=kR
attribute [go_sem] Z0w
theorem Holds.pg {h:Hq} {p off len:Nat} {ns:Lq} (hl:ns.length=256) (hp:h.get p=some (.row 256 [pgL ns] false)) (ho:off+len<=256):Holds h (.slice p off len 1) (((ns.drop off).take len).map (· % 256)):=by
 have e:(((ns.drop off).take len).map (· % 256)).length=len:=by rw[List.length_map,List.length_take,List.length_drop]; omega
 refine⟨p,off,_,by rw[e],hp,oM,fun j b hj=>?_⟩
 have jl:j<len:=by
  rcases Nat.lt_or_ge j len with h1|h1
  ·exact h1
  ·rw[List.getElem?_eq_none oM] at hj; cases hj
 have q:b=atN ns (off+j):=by
  rw[List.getElem?_map,List.getElem?_take_of_lt jl,List.getElem?_drop,List.getElem?_eq_getElem oM] at hj
  unfold atN
  rw[List.getD_eq_getElem?_getD,List.getElem?_eq_getElem oM]
  cases hj
  rfl
 subst q
 exact⟨Ta _ _,by rw[Zh,Zez,cond_false,Zr7 oM]; rfl⟩
section
variable (Hh:Hearts K Tryz.prog)
include Hh
theorem Xz {args:List W} {h h':Hq} {v:V} (e:Znx args h=some (v,h')):Zi 170 args h v h':=by
 unfold Znx at e
 split at e
 ·rename_i n a s
  obtain⟨b,e⟩:=Zq.1 e
  simp only[aQ,decide_eq_true_eq] at b
  obtain⟨⟨⟨⟨b1,b2⟩,b3⟩,b4⟩,b5⟩:=b
  cases e
  refine fnG Hh Tryz.f170 ?_
  repeat (first|apply Zu|apply Yc|refine Zr Hh Za Zf ?_)
  exact Zf
 ·cases e
theorem Z9w {h:Hq} {p off len a v:Nat} {ns:Lq} (hl:ns.length=256) (hp:h.get p=some (.row 256 [pgL ns] false)) (h1:off+len<=256) (h2:a+2<=len):Zi 134 [.c (.slice p off len 1),.c (.int .i64 a),.c (.int .i64 2),.c (.int .u32 v)] h (.w (.c (.bool true))) (h.put p (.row 256 [pgL (Er ns (off+a) v)] false)):=by
 have e0:(a:Int)+0=(a:Int):=Int.add_zero _
 have e1:(a:Int)+1=((a+1:Nat):Int):=rfl
 have s1:=@shr8
 have w8:=@wr8
 have sl:=@List.length_set Nat
 have wp:=@Yak
 have pp:=@H.Zf5
 refine fnG Hh Tryz.f134 ?_
 have Jf:=Yw @hp @e0 @e1 @s1 @w8 @wp @sl @hl @pp
 repeat (first|apply Zu|apply Jc|apply J8|apply Ye|apply Gr|apply Yc|refine Goes.Zl Ur ?_|refine Zr Hh (EY Za (Xz Hh)) Ur ?_)
 simp (maxSteps:=9^6) +decide (disch:=first|exact dZ|fail) only [go_sem,Zk,Zh,simprocAttr,Er,pp]<;>rfl
theorem Z9x {h:Hq} {p off len a v:Nat} {ns:Lq} (hl:ns.length=256) (hp:h.get p=some (.row 256 [pgL ns] false)) (h1:off+len<=256) (h2:a+4<=len):Zi 134 [.c (.slice p off len 1),.c (.int .i64 a),.c (.int .i64 4),.c (.int .u32 v)] h (.w (.c (.bool true))) (h.put p (.row 256 [pgL (Jd ns (off+a) v)] false)):=by
 have e0:(a:Int)+0=(a:Int):=Int.add_zero _
 have e1:(a:Int)+1=((a+1:Nat):Int):=rfl
 have e2:(a:Int)+2=((a+2:Nat):Int):=rfl
 have e3:(a:Int)+3=((a+3:Nat):Int):=rfl
 have s1:=@shr8
 have w8:=@wr8
 have sl:=@List.length_set Nat
 have wp:=@Yak
 have pp:=@H.Zf5
 refine fnG Hh Tryz.f134 ?_
 have Jf:=Ju @hp @e0 (Yw @e1 @e2 @e3 @s1 @w8 @wp @sl @hl @pp)
 repeat (first|apply Zu|apply Jc|apply J8|apply Ye|apply Gr|apply Yc|refine Goes.Zl Ur ?_|refine Zr Hh (EY Za (Xz Hh)) Ur ?_)
 simp (maxSteps:=9^6) +decide (disch:=first|exact dZ|fail) only [go_sem,Zk,Zh,simprocAttr,Jd,pp]<;>rfl
theorem Z9g {h:Hq} {p off len a:Nat} {ns:Lq} (hl:ns.length=256) (hp:h.get p=some (.row 256 [pgL ns] false)) (h1:off+len<=256) (h2:a+2<=len):Zi 207 [.c (.slice p off len 1),.c (.int .i64 a),.c (.int .i64 2)] h (.tup [.c (.int .u16 ((Ed ns (off+a):Nat):Int)),.c (.bool true)]) h:=by
 have e0:(a:Int)+0=(a:Int):=Int.add_zero _
 have e1:(a:Int)+1=((a+1:Nat):Int):=rfl
 have g:Ed ns (off+a)=atN ns (off+a)+256 * atN ns (off+(a+1)):=rfl
 obtain⟨b0,k0⟩:∃ b,atN ns (off+a)=b:=⟨_,rfl⟩
 obtain⟨b1,k1⟩:∃ b,atN ns (off+(a+1))=b:=⟨_,rfl⟩
 have l0:=Ta ns (off+a)
 have l1:=Ta ns (off+(a+1))
 rw[g,k0,k1]
 rw[k0] at l0
 rw[k1] at l1
 have s0:Zbn .u16 0 8=some (.int .u16 0):=rfl
 have o0:Bc .u16 Nat.lor 0 (b1:Int)=.int .u16 (b1:Int):=by
  have:=or16 (v:=0) oM l1
  rwa [Nat.mul_zero,Nat.add_zero] at this
 have s1:=sh16 l1
 have o1:=or16 l1 l0
 refine fnG Hh Tryz.f207 ?_
 have Jf:=Jl @hp (Yw @e0 @e1 @s0 @o0 @s1 @o1 @hl @k0 @k1)
 repeat (first|apply Zu|apply Jc|apply J8|apply Ye|apply Gr|apply Yc|refine Goes.Zl Ur ?_|refine Zr Hh (EY Za (Xz Hh)) Ur ?_)
 exact Zf
theorem Z9h {h:Hq} {p off len a:Nat} {ns:Lq} (hl:ns.length=256) (hp:h.get p=some (.row 256 [pgL ns] false)) (h1:off+len<=256) (h2:a+4<=len):Zi 123 [.c (.slice p off len 1),.c (.int .i64 a),.c (.int .i64 4)] h (.tup [.c (.int .u32 ((Yq ns (off+a):Nat):Int)),.c (.bool true)]) h:=by
 have e0:(a:Int)+0=(a:Int):=Int.add_zero _
 have e1:(a:Int)+1=((a+1:Nat):Int):=rfl
 have e2:(a:Int)+2=((a+2:Nat):Int):=rfl
 have e3:(a:Int)+3=((a+3:Nat):Int):=rfl
 have g:Yq ns (off+a)=atN ns (off+a)+256 * (atN ns (off+(a+1))+256 * (atN ns (off+(a+2))+256 * atN ns (off+(a+3)))):=rfl
 obtain⟨b0,k0⟩:∃ b,atN ns (off+a)=b:=⟨_,rfl⟩
 obtain⟨b1,k1⟩:∃ b,atN ns (off+(a+1))=b:=⟨_,rfl⟩
 obtain⟨b2,k2⟩:∃ b,atN ns (off+(a+2))=b:=⟨_,rfl⟩
 obtain⟨b3,k3⟩:∃ b,atN ns (off+(a+3))=b:=⟨_,rfl⟩
 have l0:=Ta ns (off+a)
 have l1:=Ta ns (off+(a+1))
 have l2:=Ta ns (off+(a+2))
 have l3:=Ta ns (off+(a+3))
 rw[g,k0,k1,k2,k3]
 rw[k0] at l0
 rw[k1] at l1
 rw[k2] at l2
 rw[k3] at l3
 have s0:Zbn .u32 0 8=some (.int .u32 0):=rfl
 have o0:Bc .u32 Nat.lor 0 (b3:Int)=.int .u32 (b3:Int):=by
  have:=or8 (v:=0) oM l3
  rwa [Nat.mul_zero,Nat.add_zero] at this
 have s1:=shl8 (v:=b3) oM
 have o1:=or8 (v:=b3) oM l2
 have s2:=shl8 (v:=b2+256 * b3) oM
 have o2:=or8 (v:=b2+256 * b3) oM l1
 have s3:=shl8 (v:=b1+256 * (b2+256 * b3)) oM
 have o3:=or8 (v:=b1+256 * (b2+256 * b3)) oM l0
 refine fnG Hh Tryz.f123 ?_
 have Jf:=Jl @hp (Yw @e0 @e1 @e2 @e3 @s0 @o0 @s1 @o1 (Yw @s2 @o2 @s3 @o3 @hl @k0 @k1 @k2 @k3))
 repeat (first|apply Zu|apply Jc|apply J8|apply Ye|apply Gr|apply Yc|refine Goes.Zl Ur ?_|refine Zr Hh (EY Za (Xz Hh)) Ur ?_)
 exact Zf
theorem Zxo {args:List W} {h h':Hq} {v:V} (e:Zs6 args h=some (v,h')):Zi 264 args h v h':=by
 unfold Zs6 at e
 split at e
 ·rename_i p off len a0 v0
  obtain⟨a,ha,e⟩:=Zj e
  obtain⟨v,hv,e⟩:=Zj e
  obtain⟨x,hx,e⟩:=Zj e
  obtain⟨ns,rfl,hl,hp⟩:=Js hx
  obtain⟨b,e⟩:=Zq.1 e
  simp only[aQ,decide_eq_true_eq] at b
  obtain⟨⟨b1,b2⟩,b3⟩:=b
  cases e
  rw[Yd ha,Yd hv,Gh,Zh7]
  have c1:=Z9w Hh hl hp b1 b2 (v:=v)
  refine fnG Hh Tryz.f264 ?_
  iterate 8 (first|apply Zu|apply Ye|refine Goes.Zl Zf ?_|refine Zr Hh Za Zf ?_)
  iterate 2 (first|apply Yc|refine Zr Hh (Zp Za c1) Zf ?_)
  exact Zf
 ·cases e
theorem Za5 {args:List W} {h h':Hq} {v:V} (e:Zs7 args h=some (v,h')):Zi 74 args h v h':=by
 unfold Zs7 at e
 split at e
 ·rename_i p off len a0 v0
  obtain⟨a,ha,e⟩:=Zj e
  obtain⟨v,hv,e⟩:=Zj e
  obtain⟨x,hx,e⟩:=Zj e
  obtain⟨ns,rfl,hl,hp⟩:=Js hx
  obtain⟨b,e⟩:=Zq.1 e
  simp only[aQ,decide_eq_true_eq] at b
  obtain⟨⟨b1,b2⟩,b3⟩:=b
  cases e
  rw[Yd ha,Yd hv,Gh,Vd]
  have c1:=Z9x Hh hl hp b1 b2 (v:=v)
  refine fnG Hh Tryz.f74 ?_
  iterate 3 (first|apply Zu|refine Zr Hh Za Zf ?_)
  iterate 2 (first|apply Yc|refine Zr Hh (Zp Za c1) Zf ?_)
  exact Zf
 ·cases e
theorem Zxg {args:List W} {h h':Hq} {v:V} (e:Zss args h=some (v,h')):Zi 159 args h v h':=by
 unfold Zss at e
 split at e
 ·rename_i p off len a0
  obtain⟨a,ha,e⟩:=Zj e
  obtain⟨x,hx,e⟩:=Zj e
  obtain⟨ns,rfl,hl,hp⟩:=Js hx
  obtain⟨b,e⟩:=Zq.1 e
  simp only[aQ,decide_eq_true_eq] at b
  obtain⟨b1,b2⟩:=b
  cases e
  rw[Yd ha,Gh,Qj]
  have c1:=Z9g Hh hl hp b1 b2
  have g2:=Zug ns (off+a)
  obtain⟨g,hg⟩:=xzE (Ed ns (off+a))
  rw[hg] at c1 g2 ⊢
  refine fnG Hh Tryz.f159 ?_
  iterate 3 (first|apply Zu|refine Zr Hh Za Zf ?_)
  iterate 4 (first|apply Zu|apply Yc|refine Zr Hh (Zp Za c1) Zf ?_)
  exact Zf
 ·cases e
theorem Zlf {args:List W} {h h':Hq} {v:V} (e:Zst args h=some (v,h')):Zi 60 args h v h':=by
 unfold Zst at e
 split at e
 ·rename_i p off len a0
  obtain⟨a,ha,e⟩:=Zj e
  obtain⟨x,hx,e⟩:=Zj e
  obtain⟨ns,rfl,hl,hp⟩:=Js hx
  obtain⟨b,e⟩:=Zq.1 e
  simp only[aQ,decide_eq_true_eq] at b
  obtain⟨b1,b2⟩:=b
  cases e
  rw[Yd ha,Gh,Tm]
  have c1:=Z9h Hh hl hp b1 b2
  refine fnG Hh Tryz.f60 ?_
  iterate 3 (first|apply Zu|refine Zr Hh Za Zf ?_)
  iterate 2 (first|apply Yc|refine Zr Hh (Zp Za c1) Zf ?_)
  exact Zf
 ·cases e
theorem Z14 {args:List W} {h h':Hq} {v:V} (e:Z13 args h=some (v,h')):Zi 206 args h v h':=by
 unfold Z13 at e
 split at e
 ·rename_i n m
  split at e
  ·rename_i s p l z ro heq
   obtain⟨x,hx,e⟩:=Zj e
   obtain⟨ns,rfl,hl,hp⟩:=Js hx
   obtain⟨b,e⟩:=Zq.1 e
   cases e
   simp only[aQ] at b
   obtain⟨⟨⟨⟨b1,b2⟩,b3⟩,b4⟩,b5⟩:=b
   obtain rfl:=bQ b1
   obtain rfl:=bQ b2
   obtain rfl:=bQ b3
   obtain rfl:=bQ b4
   rw[Gh,Zaf]
   exact Z9a Hh h n [.slice p 0 252 1] ro [((ns.drop 0).take 252).map (· % 256)] heq (Lm b5) rfl (by show 1<4294967296; decide) fun j l hj=>by
    match j with
    | 0=>cases hj; exact⟨_,rfl,Holds.pg hl hp oM⟩
    | j+1=>simp at hj
  ·cases e
 ·cases e
theorem Zga {args:List W} {h h':Hq} {v:V} (e:Z8l args h=some (v,h')):Zi 75 args h v h':=by
 unfold Z8l at e
 split at e
 ·rename_i p off len
  obtain⟨x,hx,e⟩:=Zj e
  obtain⟨ns,rfl,hl,hp⟩:=Js hx
  obtain⟨b,e⟩:=Zq.1 e
  cases e
  rw[Gh,Zbb]
  exact Z2c Hh h _ _ (Holds.pg hl hp (of_decide_eq_true b))
 ·cases e
end
end
end Go.Proofs.YteiljiijagmonaaGreatDoor
