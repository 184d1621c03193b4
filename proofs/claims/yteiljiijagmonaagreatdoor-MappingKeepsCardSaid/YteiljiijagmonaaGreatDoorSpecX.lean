/- quernref02.Sum, on the evaluator's level. -/
import Derived.Test.YteiljiijagmonaaGreatDoorMake3
import Derived.Test.YteiljiijagmonaaGreatDoorPag
set_option maxRecDepth 100000
set_option linter.unusedSimpArgs false
set_option linter.unusedVariables false
set_option linter.unusedSectionVars false
namespace Go.Proofs.YteiljiijagmonaaGreatDoor
open Go.Ev
noncomputable section
def Xq (v:Nat):Nat:=bif Nat.beq (v % 2) 1 then Nat.xor (v / 2) 3988292384 else v / 2
def shifts:Nat->Nat->Nat
 | 0,v=>v
 | k+1,v=>shifts k (Xq v)
def Zse:Lq->Nat->Nat
 | [],v=>v
 | b :: l,v=>Zse l (shifts 8 (Nat.xor v b))
def Zw7 (l:Lq):Nat:=4294967295 - Zse l 4294967295
theorem Zk5 {v:Nat} (h:v<4294967296):Xq v<4294967296:=by
 unfold Xq
 cases Nat.beq (v % 2) 1 with
 | true=>exact Nat.xor_lt_two_pow (n:=32) oM oM
 | false=>show v / 2<_; omega
theorem Zk6:∀ (k:Nat) {v:Nat},v<4294967296->shifts k v<4294967296
 | 0,_,h=>h
 | k+1,_,h=>Zk6 k (Zk5 h)
noncomputable def q205 (p:Lq):Code:=piece p (Ug Tryz.f205)
theorem Zr4:q205 [1,1,0,1,2]=.loop (q205 [1,1,0,1,2,2]):=kR
theorem Zel:q205 [1,1,0,1,2,2,1,0,2,1,1]=.block 2 (q205 [1,1,0,1,2,2,1,0,2,1,1,2]):=kR
theorem Zda:q205 [1,1,0,1,2,2,1,0,2,1,1,2]=.loop (q205 [1,1,0,1,2,2,1,0,2,1,1,2,2]):=kR
noncomputable def q242 (p:Lq):Code:=piece p (Ug Tryz.f242)
section
variable (Hh:Hearts K Tryz.prog)
include Hh
theorem Z4x (v:Nat) (hv:v<4294967296) (h:Hq):Zi 242 [.c (.int .u32 v)] h (.w (.c (.int .u32 (Xq v)))) h:=by
 have e0:Ze (U2 0 [.c (.int .u32 (v:Int))] .nil) 0=.w (.c (.int .u32 v)):=by rw[Gl]; rfl
 refine Zy.goes fits Hh kR kR kR (show Tryz.f242.body=some (q242 []) by kernel_rfl) rfl ?_
 have r1:T9 .u32 (v:Int) 2=some (.int .u32 ((v % 2:Nat):Int)):=by
  show some (C.int .u32 ((v:Int).tmod 2))=_
  congr 2
 have r2:R6 .u32 (v:Int) 2=some (.int .u32 ((v / 2:Nat):Int)):=by
  show some (Jb .u32 ((v:Int).tdiv 2))=_
  rw[show (v:Int).tdiv 2=((v / 2:Nat):Int) from rfl,Zdp oM]
 have e1:Tryz.f242.results.toList=[.tmp 2]:=rfl
 by_cases hc:v % 2=1
 ·have d1:(((v % 2:Nat):Int) == 1)=true:=by rw[hc]; rfl
  have x1:Bc .u32 Nat.xor ((v / 2:Nat):Int) 3988292384=.int .u32 (Nat.xor (v / 2) 3988292384:Nat):=Zey (b:=3988292384) oM oM
  have e2:Xq v=Nat.xor (v / 2) 3988292384:=by unfold Xq; rw[hc]; rfl
  rw[e2]
  show Z7 11 none _ _ _ _ _
  iterate 9 (first|apply Zu|apply Yc|((first|apply Goes.Zl|apply Goes.ops2 fits Hh Za); · simp (decide:=true) only [go_sem,Zv,H.get_put,H.Zg,Zh,Z9,reduceIte,Nat.reduceAdd,Nat.reduceMul,Zz,Yb,asC,Zo,Yr,Yj,e0,r1,r2,d1,x1]<;>rfl))
  simp (decide:=true) only [D5,Jt,finish,e1,Jo,evalW,Yb,asW,Zo,reduceIte,O0]
 ·have d1:(((v % 2:Nat):Int) == 1)=false:=by rw[show v % 2=0 by omega]; rfl
  have e2:Xq v=v / 2:=by unfold Xq; rw[show v % 2=0 by omega]; rfl
  rw[e2]
  show Z7 11 none _ _ _ _ _
  iterate 10 (first|apply Zu|apply Ye|apply Yc|((first|apply Goes.Zl|apply Goes.ops2 fits Hh Za); · simp (decide:=true) only [go_sem,Zv,H.get_put,H.Zg,Zh,Z9,reduceIte,Nat.reduceAdd,Nat.reduceMul,Zz,Yb,asC,Zo,Yr,Yj,e0,r1,r2,d1]<;>rfl))
  simp (decide:=true) only [D5,Jt,finish,e1,Jo,evalW,Yb,asW,Zo,reduceIte,O0]
theorem Z0x (h:Hq):∀ (k i v:Nat) (ts:Zw),i+k=8->v<4294967296->Ze ts 3=.w (.c (.int .u32 v))->Ze ts 5=.w (.c (.int .i64 i)) ->
  Z7 27 none (q205 [1,1,0,1,2,2,1,0,2,1,1,2]) [] ts h fun x ds' ts' h'=>x=.exit 2/\ds'=[]/\h'=h/\Ze ts' 3=.w (.c (.int .u32 (shifts k v)))/\Ze ts' 0=Ze ts 0/\Ze ts' 4=Ze ts 4:=by
 intro k
 induction k with
 | zero =>
  intro i v ts hi hv h3 h5
  have ei:i=8:=oM
  subst ei
  iterate 6 (first|apply Zu|apply Gr|apply J8|((first|apply Goes.Zl|apply Goes.ops2 fits Hh Za); · simp (decide:=true) only [go_sem,Zv,H.get_put,H.Zg,Zh,Z9,reduceIte,Nat.reduceAdd,Nat.reduceMul,Zz,Yb,asC,Zo,Yr,Yj,h5]<;>rfl))
  refine⟨rfl,rfl,rfl,?_,?_,?_⟩
  ·simp (decide:=true) only [Zo,reduceIte,h3,shifts]
  ·exact tY
  ·exact tY
 | succ k ih =>
  intro i v ts hi hv h3 h5
  have d1:decide ((i:Int)<8)=true:=decide_eq_true oM
  have w1:Jb .i64 ((i:Int)+1)=.int .i64 ((i+1:Nat):Int):=by rw[wrap64 oM oM]; congr 1
  iterate 8 (first|apply Zu|apply Ye|apply Jc|apply J8|((first|apply Goes.Zl|apply Goes.ops2 fits Hh Za); · simp (decide:=true) only [go_sem,Zv,H.get_put,H.Zg,Zh,Z9,reduceIte,Nat.reduceAdd,Nat.reduceMul,Zz,Yb,asC,Zo,Yr,Yj,h3,h5,d1,w1]<;>rfl))
  (apply Goes.ops2 fits Hh (Zp Za (Z4x Hh v hv h)); · simp (decide:=true) only [go_sem,Zv,H.get_put,H.Zg,Zh,Z9,reduceIte,Nat.reduceAdd,Nat.reduceMul,Z4,h3,h5,d1,w1]<;>rfl)
  (apply Goes.ops2 fits Hh Za; · simp (decide:=true) only [go_sem,Zv,H.get_put,H.Zg,Zh,Z9,reduceIte,Nat.reduceAdd,Nat.reduceMul,h3,h5,d1,w1]<;>rfl)
  show Z7 27 none (.loop (q205 [1,1,0,1,2,2,1,0,2,1,1,2,2])) _ _ _ _
  rw[<-Zda]
  refine (ih (i+1) (Xq v) _ oM (Zk5 hv) ?_ ?_).mono ?_
  ·exact tY
  ·exact tY
  ·rintro x ds' ts' h' ⟨e1,e2,e3,e4,e5,e6⟩
   refine⟨e1,e2,e3,e4,?_,?_⟩
   ·rw[e5]; simp (decide:=true) only [Zo,reduceIte]
   ·rw[e6]; simp (decide:=true) only [Zo,reduceIte]
theorem Z0y (h:Hq) (n off len:Nat) (o:O) (ho:h.get n=some o) (hlen:len<4294967296):∀ (l:Lq) (i v:Nat) (ts:Zw),i+l.length=len->(∀ j (b:Nat),l[j]? = some b->b<256/\Zh ti5 (off+(i+j)) (some o)=some (.c (.int .u8 (b:Int))))->v<4294967296->Ze ts 0=.w (.c (.slice n off len 1))->Ze ts 3=.w (.c (.int .u32 v))->Ze ts 4=.w (.c (.int .i64 i)) ->
  Z7 27 none (q205 [1,1,0,1,2]) [] ts h fun x ds' ts' h'=>x=.exit 0/\ds'=[]/\h'=h/\Ze ts' 3=.w (.c (.int .u32 (Zse l v)))/\Zse l v<4294967296:=by
 intro l
 induction l with
 | nil =>
  intro i v ts hi hl hv h0 h3 h4
  have d1:decide ((i:Int)<(len:Int))=false:=decide_eq_false (by simp at hi; omega)
  have fl:Yx K 141 (.c (.slice n off len 1))=true:=by unfold Yx; rw[Nk]; rfl
  iterate 6 (first|apply Zu|apply Gr|apply J8|((first|apply Goes.Zl|apply Goes.ops2 fits Hh Za); · simp (decide:=true) only [go_sem,Zv,H.get_put,H.Zg,Zh,Z9,reduceIte,Nat.reduceAdd,Nat.reduceMul,Zz,Yb,asC,Zo,Yr,Yj,h0,h4,d1,fl,Zt,J5]<;>rfl))
  refine⟨rfl,rfl,rfl,?_,hv⟩
  simp (decide:=true) only [Zo,reduceIte,h3,Zse]
 | cons b l ih =>
  intro i v ts hi hl hv h0 h3 h4
  simp only[List.length_cons] at hi
  have d1:decide ((i:Int)<(len:Int))=true:=decide_eq_true oM
  have fl:Yx K 141 (.c (.slice n off len 1))=true:=by unfold Yx; rw[Nk]; rfl
  have w1:Jb .i64 ((i:Int)+1)=.int .i64 ((i+1:Nat):Int):=by rw[wrap64 oM oM]; congr 1
  have b1:Nat.blt i len=true:=Gb oM
  obtain⟨hb,ld⟩:=hl 0 b rfl
  rw[Nat.add_zero] at ld
  have w2:Jb .u32 (b:Int)=.int .u32 (b:Int):=Zdp oM
  have x1:=Zey hv (show b<4294967296 by omega)
  have hx:Nat.xor v b<4294967296:=Nat.xor_lt_two_pow (n:=32) hv oM
  iterate 12 (first|apply Zu|apply Ye|apply Jc|apply J8|((first|apply Goes.Zl|apply Goes.ops2 fits Hh Za); · simp (decide:=true) only [go_sem,Zv,H.get_put,H.Zg,Z9,reduceIte,Nat.reduceAdd,Nat.reduceMul,Zz,Yb,asC,Zo,Yr,Yj,h0,h3,h4,d1,fl,w2,b1,ho,ld,x1,Zt,J5,Nk,Rh,Z50,Zl4,Z9c,Qz,Nat.beq_refl,Nat.mul_one]<;>rfl))
  show Z7 27 none (q205 [1,1,0,1,2,2,1,0,2,1,1]) _ _ _ _
  rw[Zel]
  refine Jc ((Z0x Hh h 8 0 (Nat.xor v b) _ rfl hx ?_ ?_).mono ?_)
  ·exact tY
  ·simp (decide:=true) only [Zo,reduceIte]
   rfl
  rintro x ds' ts' h' ⟨rfl,rfl,rfl,e3,e0,e4⟩
  have f0:Ze ts' 0=.w (.c (.slice n off len 1)):=by rw[e0]; simp (decide:=true) only [Zo,reduceIte,h0]
  have f4:Ze ts' 4=.w (.c (.int .i64 i)):=by rw[e4]; simp (decide:=true) only [Zo,reduceIte,h4]
  (apply Goes.ops2 fits Hh Za; · simp (decide:=true) only [go_sem,Zv,H.get_put,H.Zg,Zh,Z9,reduceIte,Nat.reduceAdd,Nat.reduceMul,f0,f4,e3,w1]<;>rfl)
  show Z7 27 none (.loop (q205 [1,1,0,1,2,2])) _ _ _ _
  rw[<-Zr4]
  refine ih (i+1) _ _ oM (fun j c hc=>?_) (Zk6 8 hx) ?_ ?_ ?_
  ·have:=hl (j+1) c (by simpa using hc)
   rwa [show i+(j+1)=i+1+j by omega] at this
  ·exact tZ f0
  ·exact tZ e3
  ·exact tY
theorem Yae (h:Hq) (n off:Nat) (o:O) (l:Lq) (ho:h.get n=some o) (hlen:l.length<4294967296) (hl:∀ j (b:Nat),l[j]? = some b->b<256/\Zh ti5 (off+j) (some o)=some (.c (.int .u8 (b:Int)))) :
  Zi 205 [.c (.slice n off l.length 1)] h (.w (.c (.int .u32 (Zw7 l)))) h:=by
 have e0:Ze (U2 0 [.c (.slice n off l.length 1)] .nil) 0=.w (.c (.slice n off l.length 1)):=by rw[Gl]; rfl
 refine Zy.goes fits Hh kR kR kR (show Tryz.f205.body=some (q205 []) by kernel_rfl) rfl ?_
 have e1:Tryz.f205.results.toList=[.tmp 2]:=rfl
 show Z7 27 none _ _ _ _ _
 iterate 8 (first|apply Zu|apply Jc|(apply Goes.ops2 fits Hh Za; · simp (decide:=true) only [go_sem,Zv,H.get_put,H.Zg,Zh,Z9,reduceIte,Nat.reduceAdd,Nat.reduceMul,e0]<;>rfl))
 show Z7 27 none (q205 [1,1,0,1,2]) _ _ _ _
 refine (Z0y Hh h n off l.length o ho hlen l 0 4294967295 _ oM ?_ oM ?_ ?_ ?_).mono ?_
 ·intro j b hb
  rw[Nat.zero_add]
  exact hl j b hb
 ·exact tZ e0
 ·simp (decide:=true) only [Zo,reduceIte]
  rfl
 ·simp (decide:=true) only [Zo,reduceIte]
  rfl
 rintro x ds' ts' h' ⟨rfl,rfl,rfl,e3,hlt⟩
 have w1:Jb .u32 (4294967295 - (Zse l 4294967295:Int))=.int .u32 (Zw7 l:Int):=by
  have e:4294967295 - (Zse l 4294967295:Int)=((Zw7 l:Nat):Int):=by unfold Zw7; omega
  rw[e,Zdp (by unfold Zw7; omega)]
 iterate 3 (first|apply Zu|apply Yc|(apply Goes.ops2 fits Hh Za; · simp (decide:=true) only [go_sem,Zv,H.get_put,H.Zg,Zh,Z9,reduceIte,Nat.reduceAdd,Nat.reduceMul,e3,w1]<;>rfl))
 simp (decide:=true) only [D5,Jt,finish,e1,Jo,evalW,Yb,asW,Zo,reduceIte,O0]
end
def Z15 (h:Hq) (off len:Nat):Option O->Option (V × Hq)
 | some (.row sz els _)=>bif Nat.ble (off % sz+len) sz&&Nat.blt len 4294967296 then (match Zk sz els off len with
  | some l=>(match Oc l with
   | some bs=>some (.w (.c (.int .u32 (Zw7 bs:Nat))),h)
   | none=>none)
  | none=>none) else none
 | _=>none
def Z8j (args:List W) (h:Hq):Option (V × Hq):=match args with
 | [.c (.slice n off len 1)]=>Z15 h off len (h.get n)
 | _=>none
def Z5o (a b c d:Nat):Bool:=Nat.ble 1 a&&Nat.ble a 4&&Nat.ble 16 b&&Nat.ble b 512&&Nat.ble 4 c&&Nat.ble c 64&&Nat.beq (c % 4) 0&&Nat.ble 40 d&&Nat.ble d 256&&Nat.ble (3+c / 4) b&&Nat.ble (2+d+a * b) 2048
theorem Zrd {a b c d:Nat} (h:Z5o a b c d=true):Fine a b c d:=by
 simp only[Z5o,aQ] at h
 obtain⟨⟨⟨⟨⟨⟨⟨⟨⟨⟨h1,h2⟩,h3⟩,h4⟩,h5⟩,h6⟩,h7⟩,h8⟩,h9⟩,h10⟩,h11⟩:=h
 exact⟨lQ h1,lQ h2,lQ h3,lQ h4,lQ h5,lQ h6,bQ h7,lQ h8,lQ h9,lQ h10,lQ h11⟩
def isQ (a b c d:Nat):Bool:=Nat.beq a 4&&Nat.beq b 60&&Nat.beq c 8&&Nat.beq d 40
def Z1b (args:List W) (h:Hq):Option (V × Hq):=match args with
 | [.g [.int .i64 (.ofNat a),.int .i64 (.ofNat b),.int .i64 (.ofNat c),.int .i64 (.ofNat d)]]=>bif isQ a b c d then some (.w (.c (.int .i64 (Mh (Dg a b c d):Nat))),h) else none
 | _=>none
def x1:Kn:=fun f args h=>bif Nat.beq f 205 then Z8j args h else bif Nat.beq f 93 then Z1b args h else none
section
variable (Hh:Hearts K Tryz.prog)
include Hh
theorem Z5d {args:List W} {h h':Hq} {v:V} (e:Z8j args h=some (v,h')):Zi 205 args h v h':=by
 unfold Z8j at e
 split at e
 ·rename_i n off len
  unfold Z15 at e
  split at e
  ·rename_i sz els ro ho
   cases hb:(Nat.ble (off % sz+len) sz&&Nat.blt len 4294967296) with
   | false=>rw[hb] at e; cases e
   | true =>
    rw[hb] at e
    simp only[aQ] at hb
    simp only[cond_true] at e
    split at e
    ·rename_i l hl
     split at e
     ·rename_i bs hbs
      cases e
      obtain⟨l1,l2⟩:=Zjo hl (lQ hb.1)
      obtain⟨n1,n2⟩:=Zhv hbs
      have hlen:bs.length=len:=oM
      have:=Yae Hh h n off (.row sz els ro) bs ho (by rw[hlen]; simpa [Nat.blt_eq] using hb.2) (fun j b hj=>by
       obtain⟨m1,m2⟩:=n2 j b hj
       refine⟨m1,?_⟩
       have hjl:j<len:=by
        rcases Nat.lt_or_ge j bs.length with h1|h1
        ·omega
        ·rw[List.getElem?_eq_none h1] at hj; cases hj
       rw[Zh,Zez,cond_false,l2 j hjl,m2]
       rfl)
      rw[hlen] at this
      exact this
     ·cases e
    ·cases e
  ·cases e
 ·cases e
theorem Z1c {args:List W} {h h':Hq} {v:V} (e:Z1b args h=some (v,h')):Zi 93 args h v h':=by
 unfold Z1b at e
 split at e
 ·rename_i a b c d
  cases hb:isQ a b c d with
  | false=>rw[hb] at e; cases e
  | true =>
   rw[hb] at e
   cases e
   simp only[isQ,aQ] at hb
   obtain⟨⟨⟨h1,h2⟩,h3⟩,h4⟩:=hb
   obtain rfl:=bQ h1
   obtain rfl:=bQ h2
   obtain rfl:=bQ h3
   obtain rfl:=bQ h4
   exact (rgK Hh).data h
 ·cases e
theorem Zu6:Zfk K Tryz.prog x1:=by
 intro f args h v h' e
 unfold x1 at e
 cases h1:Nat.beq f 205 with
 | true =>
  rw[h1] at e
  obtain rfl:=bQ h1
  exact Z5d Hh e
 | false =>
  rw[h1] at e
  cases h2:Nat.beq f 93 with
  | true =>
   rw[h2] at e
   obtain rfl:=bQ h2
   exact Z1c Hh e
  | false=>rw[h2] at e; cases e
end
def by8 (l:Lq):List C:=l.map fun (n:Nat)=>.int .u8 (n:Int)
def Zeq:List C:=by8 [81,82,78,49,1,0,0,1,4,0,60,0,8,0,40]++List.replicate 237 (.int .u8 0)++by8 [194,95,86,91]
def Zj8:List C:=by8 [56,0,7,0,1,0,0,0,56,0,8,0,0,0,0,0,56,0,8,0,0,0,0,0,56,0,8]++List.replicate 225 (.int .u8 0)++by8 [53,8,37,210]
def Zkn:List C:=by8 [81,74,78,76,4,0,0,0,1]++List.replicate 247 (.int .u8 0)
def Zzm:List C:=match Zm6 (evX K x1 3000 (.call 98 [.g Vt,.c (.int .i64 0),.g Z3y] ⟨.nil,1⟩)) with
 | some (.tup (.g l :: _))=>l
 | _=>[]
theorem Ybd:Zm6 (evX K x1 3000 (.call 95 [.g [.int .i64 4,.int .i64 60,.int .i64 8,.int .i64 40,.int .u32 0]] ⟨.nil,1⟩))=some (.tup [.g Zeq,.c (.int .i64 0)]):=kR
theorem Z95:Zm6 (evX K x1 3000 (.call 96 ([.g (Jr 4 60 8 40)]++[.c (.slice 1 0 4 3)]) ⟨.node none (.node (some (.row 3 (Zgx 56 8 4) true)) .nil .nil) .nil,2⟩))=some (.tup [.g Zj8,.c (.int .i64 0)]):=kR
theorem Ybb:Zm6 (evX K x1 3000 (.call 97 [.g Zzh] ⟨.nil,1⟩))=some (.tup [.g Zkn,.c (.int .i64 0)]):=kR
theorem Ybc:Zm6 (evX K x1 3000 (.call 98 [.g Vt,.c (.int .i64 0),.g Z3y] ⟨.nil,1⟩))=some (.tup [.g Zzm,.c (.int .i64 0)]):=kR
theorem Zkt (sz ino:Nat) (k a:Int) (h4:k≠4) (h5:k≠5):pack (Ul sz ino k a)=Vt:=by
 have e:∀ t n,byteOf (Ul sz ino k a) t n=0:=fun t n=>by
  induction n with
  | zero=>rfl
  | succ n ih=>rw[byteOf,ih]; simp [Ul,h4,h5]
 unfold pack Vt
 refine List.ext_getElem (by simp) fun t h1 h2=>?_
 rw[List.getElem_replicate,List.getElem_map,e]
 rfl
def Z67:List C:=by8 [2,0,1,0,1]++List.replicate 251 (.int .u8 0)
def bm4:List C:=by8 [15,0,0,0,0,0,0,240]++List.replicate 248 (.int .u8 255)
def bm50:List C:=by8 [1]++List.replicate 255 (.int .u8 255)
def bm51:List C:=by8 [0]++List.replicate 255 (.int .u8 255)
theorem Zrn:Zzm=Z67:=kR
theorem Z2x:pack (Ul 60 8 4 0)=bm4:=kR
theorem Z6e (a:Int):pack (Ul 60 8 4 a)=bm4:=by
 have e:Ul 60 8 4 a=Ul 60 8 4 0:=by funext i; rfl
 rw[e]
 exact Z2x
theorem Z2y:pack (Ul 60 8 5 0)=bm50:=kR
theorem bm51_1:pack (Ul 60 8 5 1)=bm51:=kR
theorem Z2z {a:Int} (h:a≠0):pack (Ul 60 8 5 a)=bm51:=by
 have e:Ul 60 8 5 a=Ul 60 8 5 1:=by funext i; simp [Ul,h]
 rw[e]
 exact bm51_1
def Z84 (x:List C):Bool:=match x with
 | [.int _ k,.int _ a,_,.int _ d]=>(!(d == 1) || (k == 6&&a == 0))
 | _=>false
theorem Z2l:(Dg 4 60 8 40).all Z84=true:=kR
theorem dn:Mh (Dg 4 60 8 40)=56:=kR
theorem len90:(Dg 4 60 8 40).length=282:=kR
theorem Z25 {b:Nat} {kd a c d:Int} (h:(Dg 4 60 8 40)[b]? = some (thing kd a c d)):d=1->kd=6/\a=0:=by
 have hm:=List.mem_of_getElem? h
 have:=(List.all_eq_true.1 Z2l) _ hm
 simp only[thing,Z84,aQ,Bool.or_eq_true,Bool.not_eq_true',beq_eq_false_iff_ne,beq_iff_eq] at this
 exact fun hd=>this.resolve_left (fun hn=>hn hd)
theorem fine2:Fine 4 60 8 40:=Zrd kR
def Z8z (b:Nat) (x:List C):List C:=match x with
 | [.int _ k,.int _ a,_,.int _ d]=>if b=0 then Zeq else if b=1 then Zj8 else if b=2 then Zkn else if d=1 then Z67 else if k=4 then bm4 else if k=5 then (if a=0 then bm50 else bm51) else Vt
 | _=>[]
def Z3t (a:Nat):List (List C):=[bm4,(if a=0 then bm50 else bm51),(if a=0 then Z67 else Vt)]++List.replicate 57 Vt
def Qm:List (List C):=[Zeq,Zj8,Zkn]++List.replicate 39 Vt++(Z3t 0++Z3t 1++Z3t 2++Z3t 3)
theorem Ya7:(List.range (Dg 4 60 8 40).length).map (fun b=>Z8z b ((Dg 4 60 8 40)[b]?.getD []))=Qm:=kR
theorem Z0d:Bn Zeq Zj8 Zkn Zzm 60 8 (Dg 4 60 8 40) (Dg 4 60 8 40).length=Qm:=by
 rw[<-Ya7]
 unfold Bn
 refine List.map_congr_left fun b hb=>?_
 have hb':=List.mem_range.1 hb
 rw[if_pos hb']
 obtain⟨kd,a,c,d,hx⟩:=Ze0 4 60 8 40 _ (List.getElem_mem hb')
 have hx':(Dg 4 60 8 40)[b]? = some (thing kd a c d):=by rw[List.getElem?_eq_getElem hb',hx]
 rw[hx',Option.getD_some]
 simp only[thing,Zog,Z8z,Zrn]
 split
 ·rfl
 split
 ·rfl
 split
 ·rfl
 split
 ·rfl
 by_cases h4:kd=4
 ·rw[if_pos h4,h4]; exact Z6e a
 rw[if_neg h4]
 by_cases h5:kd=5
 ·rw[if_pos h5,h5]
  by_cases ha:a=0
  ·rw[if_pos ha,ha]; exact Z2y
  ·rw[if_neg ha]; exact Z2z ha
 rw[if_neg h5]
 exact Zkt 60 8 kd a h4 h5
theorem Zzk:Qm.all (fun l=>l.all C.flat)=true:=kR
def isG:List W->Bool
 | [.g [.int .i64 (.ofNat a),.int .i64 (.ofNat b),.int .i64 (.ofNat c),.int .i64 (.ofNat d)]]=>Nat.beq a 4&&Nat.beq b 60&&Nat.beq c 8&&Nat.beq d 40
 | _=>false
def Z1h (args:List W) (h:Hq):Option (V × Hq):=bif isG args then some (.tup [.c (.slice h.next 0 282 256),.c (.int .i64 0)],h.new (.row 256 Qm false)) else none
def x2:Kn:=fun f args h=>bif Nat.beq f 46 then Z1h args h else bif Nat.beq f 206 then Ybf args h else bif Nat.beq f 75 then Yal args h else x1 f args h
section
variable (Hh:Hearts K Tryz.prog)
include Hh
theorem Z40:Special Tryz.prog 4 60 8 40 (Dg 4 60 8 40) (Zgx (Mh (Dg 4 60 8 40)) 8 4) Zeq Zj8 Zkn Zzm:=by
 refine⟨fun h=>?_,fun h n hn=>?_,fun h=>?_,fun h b kd a c hx=>?_,kR,kR,kR,by rw[Zrn]; kernel_rfl⟩
 ·exact Zy.closed fits Hh (Zu6 Hh) gl Ybd rfl kR h
 ·rw[dn] at hn
  exact Zy.closed1 fits Hh (Zu6 Hh) gl (us:=[.g (Jr 4 60 8 40)]) Z95 rfl rfl kR h n hn
 ·exact Zy.closed fits Hh (Zu6 Hh) gl Ybb kR kR h
 ·have h1:=Z25 hx
  obtain⟨rfl,rfl⟩:=h1 rfl
  rw[Zkt 60 8 6 0 dM dM]
  exact Zy.closed fits Hh (Zu6 Hh) gl Ybc kR (by rw[Zrn]; kernel_rfl) h
theorem Z1i {args:List W} {h h':Hq} {v:V} (e:Z1h args h=some (v,h')):Zi 46 args h v h':=by
 unfold Z1h at e
 cases hb:isG args with
 | false=>rw[hb] at e; cases e
 | true =>
  rw[hb] at e
  cases e
  unfold isG at hb
  split at hb
  ·rename_i a b c d
   simp only[aQ] at hb
   obtain⟨⟨⟨h1,h2⟩,h3⟩,h4⟩:=hb
   obtain rfl:=bQ h1
   obtain rfl:=bQ h2
   obtain rfl:=bQ h3
   obtain rfl:=bQ h4
   have c0:=Z7j Hh fine2 (rgK Hh) Zeq Zj8 Zkn Zzm (Z40 Hh) (by rw[Z0d]; exact Zzk) h
   rw[Z0d,len90] at c0
   exact c0
  ·cases hb
end
end
end Go.Proofs.YteiljiijagmonaaGreatDoor
