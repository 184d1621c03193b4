/- quernref02.Sum, on the evaluator's level. -/
import Derived.Test.YtmanipmhebgdbaaGreatDoorMake3
import Derived.Test.YtmanipmhebgdbaaGreatDoorTrc
import Derived.Test.YtmanipmhebgdbaaGreatDoorIth
set_option maxRecDepth 100000
set_option maxHeartbeats 4000000
set_option linter.unusedSimpArgs false
set_option linter.unusedVariables false
set_option linter.unusedSectionVars false
namespace Go.Proofs.YtmanipmhebgdbaaGreatDoor
open Go.Ev
noncomputable section
def Wu (v:Nat):Nat:=bif Nat.beq (v % 2) 1 then Nat.xor (v / 2) 3988292384 else v / 2
def shifts:Nat->Nat->Nat
 | 0,v=>v
 | k+1,v=>shifts k (Wu v)
def Zt0:Lq->Nat->Nat
 | [],v=>v
 | b :: l,v=>Zt0 l (shifts 8 (Nat.xor v b))
def Zyx (l:Lq):Nat:=4294967295 - Zt0 l 4294967295
theorem Zl4 {v:Nat} (h:v<4294967296):Wu v<4294967296:=by
 unfold Wu
 cases Nat.beq (v % 2) 1 with
 | true=>exact Nat.xor_lt_two_pow (n:=32) oM oM
 | false=>show v / 2<_; omega
theorem Zl5:∀ (k:Nat) {v:Nat},v<4294967296->shifts k v<4294967296
 | 0,_,h=>h
 | k+1,_,h=>Zl5 k (Zl4 h)
noncomputable def q246 (p:Lq):Code:=piece p (J8 Tryz.f246)
theorem Ztn:q246 [1,1,0,1,2]=.loop (q246 [1,1,0,1,2,2]):=kR
theorem Ze3:q246 [1,1,0,1,2,2,1,0,2,1,1]=.block 2 (q246 [1,1,0,1,2,2,1,0,2,1,1,2]):=kR
theorem Zdn:q246 [1,1,0,1,2,2,1,0,2,1,1,2]=.loop (q246 [1,1,0,1,2,2,1,0,2,1,1,2,2]):=kR
noncomputable def q287 (p:Lq):Code:=piece p (J8 Tryz.f287)
section
variable (Hh:Hearts K Tryz.prog)
include Hh
theorem Z7h (v:Nat) (hv:v<4294967296) (h:Hq):Zb 287 [.c (.int .u32 v)] h (.w (.c (.int .u32 (Wu v)))) h:=by
 have e0:Zg (Ug 0 [.c (.int .u32 (v:Int))] .nil) 0=.w (.c (.int .u32 v)):=by rw[U2]; rfl
 refine Zx.goes fits Hh kR kR kR (show Tryz.f287.body=some (q287 []) by kernel_rfl) rfl ?_
 have r1:Nr .u32 (v:Int) 2=some (.int .u32 ((v % 2:Nat):Int)):=by
  show some (C.int .u32 ((v:Int).tmod 2))=_
  congr 2
 have r2:Tt .u32 (v:Int) 2=some (.int .u32 ((v / 2:Nat):Int)):=by
  show some (Jm .u32 ((v:Int).tdiv 2))=_
  rw[show (v:Int).tdiv 2=((v / 2:Nat):Int) from rfl,Zdz oM]
 have e1:Tryz.f287.results.toList=[.tmp 2]:=rfl
 by_cases hc:v % 2=1
 ·have d1:(((v % 2:Nat):Int) == 1)=true:=by rw[hc]; rfl
  have x1:De .u32 Nat.xor ((v / 2:Nat):Int) 3988292384=.int .u32 (Nat.xor (v / 2) 3988292384:Nat):=Zfo (b:=3988292384) oM oM
  have e2:Wu v=Nat.xor (v / 2) 3988292384:=by unfold Wu; rw[hc]; rfl
  rw[e2]
  show Z9 11 none _ _ _ _ _
  iterate 9 (first|apply Z6|apply Yc|((first|apply Goes.Zi|apply gO fits Hh Za); · simp (decide:=true) only [go_sem,Zy,H.get_put,H.Zp,Zh,Z8,reduceIte,Nat.reduceAdd,Nat.reduceMul,Z4,Ya,asC,Zo,Yy,Yo,e0,r1,r2,d1,x1]<;>rfl))
  simp (decide:=true) only [Er,Jg,finish,e1,Jb,evalW,Ya,asW,Zo,reduceIte,Ue]
 ·have d1:(((v % 2:Nat):Int) == 1)=false:=by rw[show v % 2=0 by omega]; rfl
  have e2:Wu v=v / 2:=by unfold Wu; rw[show v % 2=0 by omega]; rfl
  rw[e2]
  show Z9 11 none _ _ _ _ _
  iterate 10 (first|apply Z6|apply Yx|apply Yc|((first|apply Goes.Zi|apply gO fits Hh Za); · simp (decide:=true) only [go_sem,Zy,H.get_put,H.Zp,Zh,Z8,reduceIte,Nat.reduceAdd,Nat.reduceMul,Z4,Ya,asC,Zo,Yy,Yo,e0,r1,r2,d1]<;>rfl))
  simp (decide:=true) only [Er,Jg,finish,e1,Jb,evalW,Ya,asW,Zo,reduceIte,Ue]
theorem Z24 (h:Hq):∀ (k i v:Nat) (ts:Zv),i+k=8->v<4294967296->Zg ts 3=.w (.c (.int .u32 v))->Zg ts 5=.w (.c (.int .i64 i)) ->
  Z9 27 none (q246 [1,1,0,1,2,2,1,0,2,1,1,2]) [] ts h fun x ds' ts' h'=>x=.exit 2/\ds'=[]/\h'=h/\Zg ts' 3=.w (.c (.int .u32 (shifts k v)))/\Zg ts' 0=Zg ts 0/\Zg ts' 4=Zg ts 4:=by
 intro k
 induction k with
 | zero =>
  intro i v ts hi hv h3 h5
  have ei:i=8:=oM
  subst ei
  iterate 6 (first|apply Z6|apply Ea|apply E9|((first|apply Goes.Zi|apply gO fits Hh Za); · simp (decide:=true) only [go_sem,Zy,H.get_put,H.Zp,Zh,Z8,reduceIte,Nat.reduceAdd,Nat.reduceMul,Z4,Ya,asC,Zo,Yy,Yo,h5]<;>rfl))
  refine⟨rfl,rfl,rfl,?_,?_,?_⟩
  ·simp (decide:=true) only [Zo,reduceIte,h3,shifts]
  ·exact tY
  ·exact tY
 | succ k ih =>
  intro i v ts hi hv h3 h5
  have d1:decide ((i:Int)<8)=true:=decide_eq_true oM
  have w1:Jm .i64 ((i:Int)+1)=.int .i64 ((i+1:Nat):Int):=by rw[wrap64 oM oM]; congr 1
  iterate 8 (first|apply Z6|apply Yx|apply O9|apply E9|((first|apply Goes.Zi|apply gO fits Hh Za); · simp (decide:=true) only [go_sem,Zy,H.get_put,H.Zp,Zh,Z8,reduceIte,Nat.reduceAdd,Nat.reduceMul,Z4,Ya,asC,Zo,Yy,Yo,h3,h5,d1,w1]<;>rfl))
  (apply gO fits Hh (Zj Za (Z7h Hh v hv h)); · simp (decide:=true) only [go_sem,Zy,H.get_put,H.Zp,Zh,Z8,reduceIte,Nat.reduceAdd,Nat.reduceMul,Z7,h3,h5,d1,w1]<;>rfl)
  (apply gO fits Hh Za; · simp (decide:=true) only [go_sem,Zy,H.get_put,H.Zp,Zh,Z8,reduceIte,Nat.reduceAdd,Nat.reduceMul,h3,h5,d1,w1]<;>rfl)
  show Z9 27 none (.loop (q246 [1,1,0,1,2,2,1,0,2,1,1,2,2])) _ _ _ _
  rw[<-Zdn]
  refine (ih (i+1) (Wu v) _ oM (Zl4 hv) ?_ ?_).mono ?_
  ·exact tY
  ·exact tY
  ·rintro x ds' ts' h' ⟨e1,e2,e3,e4,e5,e6⟩
   refine⟨e1,e2,e3,e4,?_,?_⟩
   ·rw[e5]; simp (decide:=true) only [Zo,reduceIte]
   ·rw[e6]; simp (decide:=true) only [Zo,reduceIte]
theorem Z25 (h:Hq) (n off len:Nat) (o:O) (ho:h.get n=some o) (hlen:len<4294967296):∀ (l:Lq) (i v:Nat) (ts:Zv),i+l.length=len->(∀ j (b:Nat),l[j]? = some b->b<256/\Zh ti5 (off+(i+j)) (some o)=some (.c (.int .u8 (b:Int))))->v<4294967296->Zg ts 0=.w (.c (.slice n off len 1))->Zg ts 3=.w (.c (.int .u32 v))->Zg ts 4=.w (.c (.int .i64 i)) ->
  Z9 27 none (q246 [1,1,0,1,2]) [] ts h fun x ds' ts' h'=>x=.exit 0/\ds'=[]/\h'=h/\Zg ts' 3=.w (.c (.int .u32 (Zt0 l v)))/\Zt0 l v<4294967296:=by
 intro l
 induction l with
 | nil =>
  intro i v ts hi hl hv h0 h3 h4
  have d1:decide ((i:Int)<(len:Int))=false:=decide_eq_false (by simp at hi; omega)
  have fl:Y4 K 73 (.c (.slice n off len 1))=true:=by unfold Y4; rw[Rt]; rfl
  iterate 6 (first|apply Z6|apply Ea|apply E9|((first|apply Goes.Zi|apply gO fits Hh Za); · simp (decide:=true) only [go_sem,Zy,H.get_put,H.Zp,Zh,Z8,reduceIte,Nat.reduceAdd,Nat.reduceMul,Z4,Ya,asC,Zo,Yy,Yo,h0,h4,d1,fl,Zr,Jl]<;>rfl))
  refine⟨rfl,rfl,rfl,?_,hv⟩
  simp (decide:=true) only [Zo,reduceIte,h3,Zt0]
 | cons b l ih =>
  intro i v ts hi hl hv h0 h3 h4
  simp only[List.length_cons] at hi
  have d1:decide ((i:Int)<(len:Int))=true:=decide_eq_true oM
  have fl:Y4 K 73 (.c (.slice n off len 1))=true:=by unfold Y4; rw[Rt]; rfl
  have w1:Jm .i64 ((i:Int)+1)=.int .i64 ((i+1:Nat):Int):=by rw[wrap64 oM oM]; congr 1
  have b1:Nat.blt i len=true:=Gv oM
  obtain⟨hb,ld⟩:=hl 0 b rfl
  rw[Nat.add_zero] at ld
  have w2:Jm .u32 (b:Int)=.int .u32 (b:Int):=Zdz oM
  have x1:=Zfo hv (show b<4294967296 by omega)
  have hx:Nat.xor v b<4294967296:=Nat.xor_lt_two_pow (n:=32) hv oM
  iterate 12 (first|apply Z6|apply Yx|apply O9|apply E9|((first|apply Goes.Zi|apply gO fits Hh Za); · simp (decide:=true) only [go_sem,Zy,H.get_put,H.Zp,Z8,reduceIte,Nat.reduceAdd,Nat.reduceMul,Z4,Ya,asC,Zo,Yy,Yo,h0,h3,h4,d1,fl,w2,b1,ho,ld,x1,Zr,Jl,Rt,Sy,Z8u,Zm7,Yb8,Zan,Nat.beq_refl,Nat.mul_one]<;>rfl))
  show Z9 27 none (q246 [1,1,0,1,2,2,1,0,2,1,1]) _ _ _ _
  rw[Ze3]
  refine O9 ((Z24 Hh h 8 0 (Nat.xor v b) _ rfl hx ?_ ?_).mono ?_)
  ·exact tY
  ·simp (decide:=true) only [Zo,reduceIte]
   rfl
  rintro x ds' ts' h' ⟨rfl,rfl,rfl,e3,e0,e4⟩
  have f0:Zg ts' 0=.w (.c (.slice n off len 1)):=by rw[e0]; simp (decide:=true) only [Zo,reduceIte,h0]
  have f4:Zg ts' 4=.w (.c (.int .i64 i)):=by rw[e4]; simp (decide:=true) only [Zo,reduceIte,h4]
  (apply gO fits Hh Za; · simp (decide:=true) only [go_sem,Zy,H.get_put,H.Zp,Zh,Z8,reduceIte,Nat.reduceAdd,Nat.reduceMul,f0,f4,e3,w1]<;>rfl)
  show Z9 27 none (.loop (q246 [1,1,0,1,2,2])) _ _ _ _
  rw[<-Ztn]
  refine ih (i+1) _ _ oM (fun j c hc=>?_) (Zl5 8 hx) ?_ ?_ ?_
  ·have:=hl (j+1) c (by simpa using hc)
   rwa [show i+(j+1)=i+1+j by omega] at this
  ·exact tZ f0
  ·exact tZ e3
  ·exact tY
theorem Ydi (h:Hq) (n off:Nat) (o:O) (l:Lq) (ho:h.get n=some o) (hlen:l.length<4294967296) (hl:∀ j (b:Nat),l[j]? = some b->b<256/\Zh ti5 (off+j) (some o)=some (.c (.int .u8 (b:Int)))) :
  Zb 246 [.c (.slice n off l.length 1)] h (.w (.c (.int .u32 (Zyx l)))) h:=by
 have e0:Zg (Ug 0 [.c (.slice n off l.length 1)] .nil) 0=.w (.c (.slice n off l.length 1)):=by rw[U2]; rfl
 refine Zx.goes fits Hh kR kR kR (show Tryz.f246.body=some (q246 []) by kernel_rfl) rfl ?_
 have e1:Tryz.f246.results.toList=[.tmp 2]:=rfl
 show Z9 27 none _ _ _ _ _
 iterate 8 (first|apply Z6|apply O9|(apply gO fits Hh Za; · simp (decide:=true) only [go_sem,Zy,H.get_put,H.Zp,Zh,Z8,reduceIte,Nat.reduceAdd,Nat.reduceMul,e0]<;>rfl))
 show Z9 27 none (q246 [1,1,0,1,2]) _ _ _ _
 refine (Z25 Hh h n off l.length o ho hlen l 0 4294967295 _ oM ?_ oM ?_ ?_ ?_).mono ?_
 ·intro j b hb
  rw[Nat.zero_add]
  exact hl j b hb
 ·exact tZ e0
 ·simp (decide:=true) only [Zo,reduceIte]
  rfl
 ·simp (decide:=true) only [Zo,reduceIte]
  rfl
 rintro x ds' ts' h' ⟨rfl,rfl,rfl,e3,hlt⟩
 have w1:Jm .u32 (4294967295 - (Zt0 l 4294967295:Int))=.int .u32 (Zyx l:Int):=by
  have e:4294967295 - (Zt0 l 4294967295:Int)=((Zyx l:Nat):Int):=by unfold Zyx; omega
  rw[e,Zdz (by unfold Zyx; omega)]
 iterate 3 (first|apply Z6|apply Yc|(apply gO fits Hh Za; · simp (decide:=true) only [go_sem,Zy,H.get_put,H.Zp,Zh,Z8,reduceIte,Nat.reduceAdd,Nat.reduceMul,e3,w1]<;>rfl))
 simp (decide:=true) only [Er,Jg,finish,e1,Jb,evalW,Ya,asW,Zo,reduceIte,Ue]
end
def Z4f (h:Hq) (off len:Nat):Option O->Option (V × Hq)
 | some (.row sz els _)=>bif Nat.ble (off % sz+len) sz&&Nat.blt len 4294967296 then (match Zm sz els off len with
  | some l=>(match Oy l with
   | some bs=>some (.w (.c (.int .u32 (Zyx bs:Nat))),h)
   | none=>none)
  | none=>none) else none
 | _=>none
def Ybe (args:List W) (h:Hq):Option (V × Hq):=match args with
 | [.c (.slice n off len 1)]=>Z4f h off len (h.get n)
 | _=>none
def Z8i (a b c d:Nat):Bool:=Nat.ble 1 a&&Nat.ble a 4&&Nat.ble 16 b&&Nat.ble b 512&&Nat.ble 4 c&&Nat.ble c 64&&Nat.beq (c % 4) 0&&Nat.ble 40 d&&Nat.ble d 256&&Nat.ble (3+c / 4) b&&Nat.ble (2+d+a * b) 2048
theorem Zsw {a b c d:Nat} (h:Z8i a b c d=true):Fine a b c d:=by
 simp only[Z8i,aQ] at h
 obtain⟨⟨⟨⟨⟨⟨⟨⟨⟨⟨h1,h2⟩,h3⟩,h4⟩,h5⟩,h6⟩,h7⟩,h8⟩,h9⟩,h10⟩,h11⟩:=h
 exact⟨lQ h1,lQ h2,lQ h3,lQ h4,lQ h5,lQ h6,bQ h7,lQ h8,lQ h9,lQ h10,lQ h11⟩
def isQ (a b c d:Nat):Bool:=Nat.beq a 2&&Nat.beq b 60&&Nat.beq c 32&&Nat.beq d 40
def Z3n (args:List W) (h:Hq):Option (V × Hq):=match args with
 | [.g [.int .i64 (.ofNat a),.int .i64 (.ofNat b),.int .i64 (.ofNat c),.int .i64 (.ofNat d)]]=>bif isQ a b c d then some (.w (.c (.int .i64 (Nj (Eb a b c d):Nat))),h) else none
 | _=>none
def x1:Kn:=fun f args h=>bif Nat.beq f 246 then Ybe args h else bif Nat.beq f 99 then Z3n args h else none
section
variable (Hh:Hearts K Tryz.prog)
include Hh
theorem Z78 {args:List W} {h h':Hq} {v:V} (e:Ybe args h=some (v,h')):Zb 246 args h v h':=by
 unfold Ybe at e
 split at e
 ·rename_i n off len
  unfold Z4f at e
  split at e
  ·rename_i sz els ro ho
   cases hb:(Nat.ble (off % sz+len) sz&&Nat.blt len 4294967296) with
   | false=>rw[hb] at e; cases e
   | true =>
    rw[hb] at e
    simp only[aQ] at hb
    simp only[cond_true] at e
    split at e
    ·rename_i l hl
     split at e
     ·rename_i bs hbs
      cases e
      obtain⟨l1,l2⟩:=Zkq hl (lQ hb.1)
      obtain⟨n1,n2⟩:=Zis hbs
      have hlen:bs.length=len:=oM
      have:=Ydi Hh h n off (.row sz els ro) bs ho (by rw[hlen]; simpa [Nat.blt_eq] using hb.2) (fun j b hj=>by
       obtain⟨m1,m2⟩:=n2 j b hj
       refine⟨m1,?_⟩
       have hjl:j<len:=by
        rcases Nat.lt_or_ge j bs.length with h1|h1
        ·omega
        ·rw[lN h1] at hj; cases hj
       rw[Zh,Zfq,cond_false,l2 j hjl,m2]
       rfl)
      rw[hlen] at this
      exact this
     ·cases e
    ·cases e
  ·cases e
 ·cases e
theorem Z3o {args:List W} {h h':Hq} {v:V} (e:Z3n args h=some (v,h')):Zb 99 args h v h':=by
 unfold Z3n at e
 split at e
 ·rename_i a b c d
  cases hb:isQ a b c d with
  | false=>rw[hb] at e; cases e
  | true =>
   rw[hb] at e
   cases e
   simp only[isQ,aQ] at hb
   obtain⟨⟨⟨h1,h2⟩,h3⟩,h4⟩:=hb
   obtain rfl:=bQ h1
   obtain rfl:=bQ h2
   obtain rfl:=bQ h3
   obtain rfl:=bQ h4
   exact (rgK Hh).data h
 ·cases e
theorem Zwu:Zch K Tryz.prog x1:=by
 intro f args h v h' e
 unfold x1 at e
 cases h1:Nat.beq f 246 with
 | true =>
  rw[h1] at e
  obtain rfl:=bQ h1
  exact Z78 Hh e
 | false =>
  rw[h1] at e
  cases h2:Nat.beq f 99 with
  | true =>
   rw[h2] at e
   obtain rfl:=bQ h2
   exact Z3o Hh e
  | false=>rw[h2] at e; cases e
end
def by8 (l:Lq):List C:=l.map fun (n:Nat)=>.int .u8 (n:Int)
def Zfa:List C:=by8 [81,82,78,49,1,0,0,1,2,0,60,0,32,0,40]++List.replicate 237 (.int .u8 0)++by8 [130,70,246,134]
def Zk8:List C:=by8 [50,0,31,0,1,0,0,0,50,0,32]++List.replicate 241 (.int .u8 0)++by8 [230,113,170,239]
def Zlo:List C:=by8 [81,74,78,76,4,0,0,0,1]++List.replicate 247 (.int .u8 0)
def Z1l:List C:=match Zkr (evX K x1 3000 (.call 104 [.g Xt,.c (.int .i64 0),.g Z58] ⟨.nil,1⟩)) with
 | some (.tup (.g l :: _))=>l
 | _=>[]
theorem Yeo:Zkr (evX K x1 3000 (.call 101 [.g [.int .i64 2,.int .i64 60,.int .i64 32,.int .i64 40,.int .u32 0]] ⟨.nil,1⟩))=some (.tup [.g Zfa,.c (.int .i64 0)]):=kR
theorem Yde:Zkr (evX K x1 3000 (.call 102 ([.g (Jw 2 60 32 40)]++[.c (.slice 1 0 2 3)]) ⟨.node none (.node (some (.row 3 (Zhp 50 32 2) true)) .nil .nil) .nil,2⟩))=some (.tup [.g Zk8,.c (.int .i64 0)]):=kR
theorem Yel:Zkr (evX K x1 3000 (.call 103 [.g Z1g] ⟨.nil,1⟩))=some (.tup [.g Zlo,.c (.int .i64 0)]):=kR
theorem Yem:Zkr (evX K x1 3000 (.call 104 [.g Xt,.c (.int .i64 0),.g Z58] ⟨.nil,1⟩))=some (.tup [.g Z1l,.c (.int .i64 0)]):=kR
theorem Zlv (sz ino:Nat) (k a:Int) (h4:k≠4) (h5:k≠5):pack (U6 sz ino k a)=Xt:=by
 have e:∀ t n,byteOf (U6 sz ino k a) t n=0:=fun t n=>by
  induction n with
  | zero=>rfl
  | succ n ih=>rw[byteOf,ih]; simp [U6,h4,h5]
 unfold pack Xt
 refine List.ext_getElem (by simp) fun t h1 h2=>?_
 rw[List.getElem_replicate,List.getElem_map,e]
 rfl
def Z9w:List C:=by8 [2,0,1,0,1]++List.replicate 251 (.int .u8 0)
def bm4:List C:=by8 [255,3,0,0,0,0,0,240]++List.replicate 248 (.int .u8 255)
def bm50:List C:=by8 [1,0,0,0]++List.replicate 252 (.int .u8 255)
def bm51:List C:=by8 [0,0,0,0]++List.replicate 252 (.int .u8 255)
theorem Zs6:Z1l=Z9w:=kR
theorem Z5b:pack (U6 60 32 4 0)=bm4:=kR
theorem Z9b (a:Int):pack (U6 60 32 4 a)=bm4:=by
 have e:U6 60 32 4 a=U6 60 32 4 0:=by funext i; rfl
 rw[e]
 exact Z5b
theorem Z5c:pack (U6 60 32 5 0)=bm50:=kR
theorem bm51_1:pack (U6 60 32 5 1)=bm51:=kR
theorem Z5d {a:Int} (h:a≠0):pack (U6 60 32 5 a)=bm51:=by
 have e:U6 60 32 5 a=U6 60 32 5 1:=by funext i; simp [U6,h]
 rw[e]
 exact bm51_1
def Yb1 (x:List C):Bool:=match x with
 | [.int _ k,.int _ a,_,.int _ d]=>(!(d == 1) || (k == 6&&a == 0))
 | _=>false
theorem Z4w:(Eb 2 60 32 40).all Yb1=true:=kR
theorem dn:Nj (Eb 2 60 32 40)=50:=kR
theorem len90:(Eb 2 60 32 40).length=162:=kR
theorem Z5j {b:Nat} {kd a c d:Int} (h:(Eb 2 60 32 40)[b]? = some (thing kd a c d)):d=1->kd=6/\a=0:=by
 have hm:=lM h
 have:=(List.all_eq_true.1 Z4w) _ hm
 simp only[thing,Yb1,aQ,Bool.or_eq_true,Bool.not_eq_true',beq_eq_false_iff_ne,beq_iff_eq] at this
 exact fun hd=>this.resolve_left (fun hn=>hn hd)
theorem fine2:Fine 2 60 32 40:=Zsw kR
def Ybw (b:Nat) (x:List C):List C:=match x with
 | [.int _ k,.int _ a,_,.int _ d]=>if b=0 then Zfa else if b=1 then Zk8 else if b=2 then Zlo else if d=1 then Z9w else if k=4 then bm4 else if k=5 then (if a=0 then bm50 else bm51) else Xt
 | _=>[]
def Ycl (a:Nat):List (List C):=[bm4,(if a=0 then bm50 else bm51),(if a=0 then Z9w else Xt)]++List.replicate 57 Xt
def Zaa:List (List C):=[Zfa,Zk8,Zlo]++List.replicate 39 Xt++(Ycl 0++Ycl 1)
theorem Yei:(List.range (Eb 2 60 32 40).length).map (fun b=>Ybw b ((Eb 2 60 32 40)[b]?.getD []))=Zaa:=kR
theorem Z2e:Dg Zfa Zk8 Zlo Z1l 60 32 (Eb 2 60 32 40) (Eb 2 60 32 40).length=Zaa:=by
 rw[<-Yei]
 unfold Dg
 refine List.map_congr_left fun b hb=>?_
 have hb':=List.mem_range.1 hb
 rw[if_pos hb']
 obtain⟨kd,a,c,d,hx⟩:=Zfr 2 60 32 40 _ (List.getElem_mem hb')
 have hx':(Eb 2 60 32 40)[b]? = some (thing kd a c d):=by rw[lG hb',hx]
 rw[hx',Option.getD_some]
 simp only[thing,Zpp,Ybw,Zs6]
 split
 ·rfl
 split
 ·rfl
 split
 ·rfl
 split
 ·rfl
 by_cases h4:kd=4
 ·rw[if_pos h4,h4]; exact Z9b a
 rw[if_neg h4]
 by_cases h5:kd=5
 ·rw[if_pos h5,h5]
  by_cases ha:a=0
  ·rw[if_pos ha,ha]; exact Z5c
  ·rw[if_neg ha]; exact Z5d ha
 rw[if_neg h5]
 exact Zlv 60 32 kd a h4 h5
theorem Z1k:Zaa.all (fun l=>l.all C.flat)=true:=kR
def isG:List W->Bool
 | [.g [.int .i64 (.ofNat a),.int .i64 (.ofNat b),.int .i64 (.ofNat c),.int .i64 (.ofNat d)]]=>Nat.beq a 2&&Nat.beq b 60&&Nat.beq c 32&&Nat.beq d 40
 | _=>false
def Z3r (args:List W) (h:Hq):Option (V × Hq):=bif isG args then some (.tup [.c (.slice h.next 0 162 256),.c (.int .i64 0)],h.new (.row 256 Zaa false)) else none
def x2:Kn:=fun f args h=>bif Nat.beq f 47 then Z3r args h else bif Nat.beq f 317 then Yey args h else bif Nat.beq f 85 then Ydq args h else x1 f args h
section
variable (Hh:Hearts K Tryz.prog)
include Hh
theorem Z7m:Special Tryz.prog 2 60 32 40 (Eb 2 60 32 40) (Zhp (Nj (Eb 2 60 32 40)) 32 2) Zfa Zk8 Zlo Z1l:=by
 refine⟨fun h=>?_,fun h n hn=>?_,fun h=>?_,fun h b kd a c hx=>?_,kR,kR,kR,by rw[Zs6]; kernel_rfl⟩
 ·exact Zx.closed fits Hh (Zwu Hh) gl Yeo rfl kR h
 ·rw[dn] at hn
  exact Zx.closed1 fits Hh (Zwu Hh) gl (us:=[.g (Jw 2 60 32 40)]) Yde rfl rfl kR h n hn
 ·exact Zx.closed fits Hh (Zwu Hh) gl Yel kR kR h
 ·have h1:=Z5j hx
  obtain⟨rfl,rfl⟩:=h1 rfl
  rw[Zlv 60 32 6 0 dM dM]
  exact Zx.closed fits Hh (Zwu Hh) gl Yem kR (by rw[Zs6]; kernel_rfl) h
theorem Z3s {args:List W} {h h':Hq} {v:V} (e:Z3r args h=some (v,h')):Zb 47 args h v h':=by
 unfold Z3r at e
 cases hb:isG args with
 | false=>rw[hb] at e; cases e
 | true =>
  rw[hb] at e
  cases e
  unfold isG at hb
  split at hb
  ·rename_i a b c d
   simp only[aQ] at hb
   obtain⟨⟨⟨h1,h2⟩,h3⟩,h4⟩:=hb
   obtain rfl:=bQ h1
   obtain rfl:=bQ h2
   obtain rfl:=bQ h3
   obtain rfl:=bQ h4
   have c0:=Z97 Hh fine2 (rgK Hh) Zfa Zk8 Zlo Z1l (Z7m Hh) (by rw[Z2e]; exact Z1k) h
   rw[Z2e,len90] at c0
   exact c0
  ·cases hb
end
open Go.Ev
theorem sz24:ti24.size=1:=by rfl
theorem sz26:ti26.size=1:=by rfl
theorem ty28:K.types.get 28=some ti28:=kR
theorem sz28:ti28.size=4:=by rfl
theorem ag28:ti28.agg=true:=by rfl
theorem fo28_0:Zw K 28 0=some (0,ti23):=kR
theorem fo28_1:Zw K 28 1=some (1,ti24):=kR
theorem fo28_2:Zw K 28 2=some (2,ti25):=kR
theorem fo28_3:Zw K 28 3=some (3,ti26):=kR
theorem bu28 (ps:List (Nat × W)):Yr K 28 (some ps)=gW (Yh K 28 ps ti28.zero.cells):=kR
theorem ze28:ti28.zero=(.g ([.pnil,.pnil,.pnil,.pnil])):=by rfl
theorem ty58:K.types.get 58=some ti58:=kR
theorem sz58:ti58.size=1:=by rfl
theorem ag58:ti58.agg=false:=by rfl
theorem fo60_0:Zw K 60 0=some (0,ti57):=kR
theorem fo60_1:Zw K 60 1=some (4,ti5):=kR
theorem fo60_2:Zw K 60 2=some (5,ti58):=kR
theorem bu60 (ps:List (Nat × W)):Yr K 60 (some ps)=gW (Yh K 60 ps ti60.zero.cells):=kR
theorem ze60:ti60.zero=(.g ([.int .i64 0,.int .i64 0,.int .i64 0,.int .i64 0,.int .u8 0,.snil])):=by rfl
theorem fo203_0:Zw K 203 0=some (0,ti106):=kR
theorem fo203_3:Zw K 203 3=some (3,ti3):=kR
theorem bu203 (ps:List (Nat × W)):Yr K 203 (some ps)=gW (Yh K 203 ps ti203.zero.cells):=kR
theorem ze203:ti203.zero=(.g ([.snil,.snil,.int .i64 0,.int .i64 0])):=by rfl
theorem sz212:ti212.size=1:=by rfl
theorem sz215:ti215.size=1:=by rfl
theorem sz218:ti218.size=1:=by rfl
theorem fo221_0:Zw K 221 0=some (0,ti26):=kR
theorem bu221 (ps:List (Nat × W)):Yr K 221 (some ps)=gW (Yh K 221 ps ti221.zero.cells):=kR
theorem ze221:ti221.zero=(.g ([.pnil,.snil,.snil])):=by rfl
theorem sz222:ti222.size=1:=by rfl
theorem fo227_0:Zw K 227 0=some (0,ti40):=kR
theorem bu227 (ps:List (Nat × W)):Yr K 227 (some ps)=gW (Yh K 227 ps ti227.zero.cells):=kR
theorem ze227:ti227.zero=(.g ([.int .u32 0,.snil,.snil,.snil,.snil,.snil,.snil,.snil,.snil,.bool false,.int .i64 0,.int .i64 0,.snil])):=by rfl
theorem fo234_0:Zw K 234 0=some (0,ti57):=kR
theorem fo234_1:Zw K 234 1=some (4,ti5):=kR
theorem fo234_2:Zw K 234 2=some (5,ti218):=kR
theorem fo234_3:Zw K 234 3=some (6,ti212):=kR
theorem fo234_4:Zw K 234 4=some (7,ti215):=kR
theorem fo234_5:Zw K 234 5=some (8,ti222):=kR
theorem bu234 (ps:List (Nat × W)):Yr K 234 (some ps)=gW (Yh K 234 ps ti234.zero.cells):=kR
theorem ze234:ti234.zero=(.g ([.int .i64 0,.int .i64 0,.int .i64 0,.int .i64 0,.int .u8 0,.pnil,.pnil,.pnil,.pnil,.bool false,.int .u32 0,.snil,.snil,.snil,.snil,.snil,.snil,.bool false,.snil,.snil])):=by rfl
theorem fo311_0:Zw K 311 0=some (0,ti3):=kR
theorem fo311_2:Zw K 311 2=some (2,ti3):=kR
theorem bu311 (ps:List (Nat × W)):Yr K 311 (some ps)=gW (Yh K 311 ps ti311.zero.cells):=kR
theorem ze311:ti311.zero=(.g ([.int .i64 0,.snil,.int .i64 0])):=by rfl
theorem fo314_0:Zw K 314 0=some (0,ti57):=kR
theorem bu314 (ps:List (Nat × W)):Yr K 314 (some ps)=gW (Yh K 314 ps ti314.zero.cells):=kR
theorem ze314:ti314.zero=(.g ([.int .i64 0,.int .i64 0,.int .i64 0,.int .i64 0,.snil,.int .u32 0,.bool false])):=by rfl
attribute [go_sem] sz24 sz26 ty28 sz28 ag28 fo28_0 fo28_1 fo28_2 fo28_3 bu28 ze28 ty35 de35 ty58 sz58 ag58 fo60_0 fo60_1 fo60_2 bu60 ze60 fo203_0 fo203_3 bu203 ze203 sz212 sz215 sz218 fo221_0 bu221 ze221 sz222 fo227_0 bu227 ze227 fo234_0 fo234_1 fo234_2 fo234_3 fo234_4 fo234_5 bu234 ze234 fo311_0 fo311_2 bu311 ze311 fo314_0 bu314 ze314
noncomputable def q16 (p:Lq):Code:=piece p (J8 Tryz.f16)
theorem rs16:Tryz.f16.results.toList=[.cell 2 28,.tmp 3]:=rfl
theorem rs49:Tryz.f49.results.toList=[.tmp 2,.tmp 3]:=rfl
theorem rs51:Tryz.f51.results.toList=[.tmp 8,.tmp 9]:=rfl
theorem rs115:Tryz.f115.results.toList=[.tmp 2,.tmp 3]:=rfl
theorem rs116:Tryz.f116.results.toList=[.tmp 2,.tmp 3]:=rfl
attribute [go_sem] rs16 rs49 rs51 rs115 rs116
section
variable (Hh:Hearts K Tryz.prog)
include Hh
theorem Z8m (h:Hq):Zb 97 [.g [.int .i64 2,.int .i64 60,.int .i64 32,.int .i64 40]] h (.w (.c (.bool true))) h:=Zx.closed fits Hh Zok gl (n:=20000) kR rfl rfl h
theorem Z2m (h:Hq):Zb 114 [.g [.int .i64 2,.int .i64 60,.int .i64 32,.int .i64 40]] h (.w (.c (.int .i64 162))) h:=Zx.closed fits Hh Zok gl (n:=20000) kR rfl rfl h
theorem Yc9 {h:Hq} {n:Nat} {L:List (List C)} (hn:h.get n=some (.row 256 L false)) (nl:n<h.next) (Ll:L.length=162) (lf:Y4 K 106 (.c (.slice n 0 162 256))=true) :
  ∃ h' q m sz x,Zb 49 [.c (.slice n 0 162 256)] h (.tup [.c (.ptr q 0),.c (.int .i64 0)]) h'/\h.next<=q/\q<h'.next/\h'.get q=some (.row sz [x] false)/\read1 sz [x] 0=some (.slice m 0 162 256)/\∀ m,m<h.next->h'.get m=h.get m:=by
 have rm:Fb 256 L 0 256 162=some L:=by rw[<-Ll]; exact Wq 256 L
 obtain⟨v,h',cc,q,m,sz,x,rfl,q1,q2,q3,q4,hk⟩:∃ v h',Zb 49 [.c (.slice n 0 162 256)] h v h'/\∃ q m sz x,v=.tup [.c (.ptr q 0),.c (.int .i64 0)]/\h.next<=q/\q<h'.next/\h'.get q=some (.row sz [x] false)/\read1 sz [x] 0=some (.slice m 0 162 256)/\∀ m,m<h.next->h'.get m=h.get m:=by
  rcases L with _|⟨x0,L⟩
  ·simp at Ll
  ·
   refine Ym Hh Tryz.f49 ?_
   iterate 10 (first|((first|apply Goes.Zi|apply gO fits Hh Za); · simp (maxSteps:=9^6) +decide (disch:=first|exact dZ|fail) only [go_sem,Zm,Zh,simprocAttr,lf,hn,rm,Ll,List.length_append,Nat.zero_add,Zr,Jl,Yt,O3,Jt,Uf,Wt,R5,Zak,Ql,Js,Rl,Uo,List.replicate_succ,List.replicate_zero,Nat.zero_mul]<;>rfl)|apply gS)
   refine⟨_,_,Zd,_,_,_,_,rfl,?_,?_,by first|exact O6 .. | (rw[Oe (by simp only[H.Ze,H.Yv]<;>omega)]),rfl,fun m hm=>by exact Ni⟩
   ·first|omega|(simp only[H.Ze,H.Yv]<;>omega)
   ·first|omega|(simp only[H.Ze,H.Yv]<;>omega)
 exact⟨h',q,m,sz,x,cc,q1,q2,q3,q4,hk⟩
theorem Yda (h:Hq):∃ h' r,Zb 115 [.c (.int .i64 40)] h (.tup [.c (.ptr r 0),.c (.int .i64 0)]) h'/\h.next<=h'.next/\∀ m,m<h.next->h'.get m=h.get m:=by
 obtain⟨v,h',cc,r,rfl,n1,hk⟩:∃ v h',Zb 115 [.c (.int .i64 40)] h v h'/\∃ r,v=.tup [.c (.ptr r 0),.c (.int .i64 0)]/\h.next<=h'.next/\∀ m,m<h.next->h'.get m=h.get m:=by
  refine Ym Hh Tryz.f115 ?_
  iterate 10 (first|refine Goes.Zi Fq ?_|refine Zn Hh Za Fq ?_|apply gS)
  exact⟨_,_,Zd,_,rfl,(by first|omega|(simp only[H.Ze,H.Zf]<;>omega)),fun m hm=>by exact Ni⟩
 exact⟨h',r,cc,n1,hk⟩
theorem Yc8 (h:Hq):∃ h' r,Zb 116 [.g [.int .i64 2,.int .i64 60,.int .i64 32,.int .i64 40]] h (.tup [.c (.ptr r 0),.c (.int .i64 0)]) h'/\h.next<=h'.next/\∀ m,m<h.next->h'.get m=h.get m:=by
 have cM:=fun h=>Z8m Hh h
 have rd4':Zm 4 [[.int .i64 2,.int .i64 60,.int .i64 32,.int .i64 40]] 0 4=some [.int .i64 2,.int .i64 60,.int .i64 32,.int .i64 40]:=rfl
 obtain⟨v,h',cc,r,rfl,n1,hk⟩:∃ v h',Zb 116 [.g [.int .i64 2,.int .i64 60,.int .i64 32,.int .i64 40]] h v h'/\∃ r,v=.tup [.c (.ptr r 0),.c (.int .i64 0)]/\h.next<=h'.next/\∀ m,m<h.next->h'.get m=h.get m:=by
  refine Ym Hh Tryz.f116 ?_
  have Jf:=@rd4'
  iterate 4 (first|refine Zn Hh Za Oq ?_|apply gS)
  iterate 6 (first|refine Goes.Zi Oq ?_|refine Zn Hh (Y3 Za cM) Oq ?_|apply gS)
  exact⟨_,_,Yi,_,rfl,(by first|omega|(simp only[H.Ze,H.Zf]<;>omega)),fun m hm=>by exact Ni⟩
 exact⟨h',r,cc,n1,hk⟩
theorem Yej {h:Hq} {q m sz:Nat} {x:List C} (hq:h.get q=some (.row sz [x] false)) (hx:read1 sz [x] 0=some (.slice m 0 162 256)) (ql:q<h.next) {md:Int} (m1:1<=md) (m3:md<=3) (lf:Y4 K 106 (.c (.slice m 0 162 256))=true) :
  ∃ h' s,Zb 51 [.c (.ptr q 0),.g [.int .i64 2,.int .i64 60,.int .i64 32,.int .i64 40],.c (.int .u8 md),.c (.int .u32 1)] h (.tup [.c (.ptr s 0),.c (.int .i64 0)]) h'/\h.next<=h'.next/\∀ m,m<h.next->h'.get m=h.get m:=by
 have cM:=fun h=>Z8m Hh h
 have cB:=fun h=>Z2m Hh h
 have hx':x[0]? = some (.slice m 0 162 256):=by
  unfold read1 at hx
  rw[Nat.zero_div,Nat.zero_mod,List.getElem?_cons_zero] at hx
  exact hx
 have rd4':Zm 4 [[.int .i64 2,.int .i64 60,.int .i64 32,.int .i64 40]] 0 4=some [.int .i64 2,.int .i64 60,.int .i64 32,.int .i64 40]:=rfl
 obtain⟨v,h',cc,s,rfl,n1,hk⟩:∃ v h',Zb 51 [.c (.ptr q 0),.g [.int .i64 2,.int .i64 60,.int .i64 32,.int .i64 40],.c (.int .u8 md),.c (.int .u32 1)] h v h'/\∃ s,v=.tup [.c (.ptr s 0),.c (.int .i64 0)]/\h.next<=h'.next/\∀ m,m<h.next->h'.get m=h.get m:=by
  refine Ym Hh Tryz.f51 ?_
  have Jf:=L8 @rd4' @hq @hx' @lf @Nat.zero_div @Nat.zero_mod
  iterate 4 (first|refine Zn Hh Za Gj ?_|apply gS)
  iterate 5 (first|refine Goes.Zi Gj ?_|refine Zn Hh (Y3 Za cM) Gj ?_|apply gS)
  iterate 4 (first|refine Goes.Zi Gj ?_|refine Fe Hh (Y3 Za cB) Zhc ?_|apply gS)
  refine Jq fun hA eA=>?_
  have nA:hA.next=h.next+1:=nxQ eA
  have kA:∀ m,m<h.next->hA.get m=h.get m:=fun m hm=>by rw[eA]; exact Ni
  have aA:hA.get h.next=some (.row 4 [[.int .i64 2,.int .i64 60,.int .i64 32,.int .i64 40]] false):=by rw[eA]; exact Yi
  clear eA
  obtain⟨hB,r1,c5,nB,kB⟩:=Yda Hh hA
  have aB:=(kB h.next oM).trans aA
  obtain⟨hC,r2,c6,nC,kC⟩:=Yc8 Hh hB
  have aC:=(kC h.next oM).trans aB
  have Jf:=J4 Jf @aA @aB @aC
  iterate 2 (first|refine Zn Hh (Zj Za c5) Gj ?_|apply gS)
  iterate 4 (first|refine Zn Hh (Zj Za c6) Gj ?_|apply gS)
  exact⟨_,_,Yi,_,rfl,(by first|omega|(simp only[H.Ze,H.Zf]<;>omega)),fun m hm=>by refine Eq.trans ?_ ((kC m oM).trans ((kB m oM).trans (kA m hm))); exact Ni⟩
 exact⟨h',s,cc,n1,hk⟩
end
section
variable (Hh:Hearts K Tryz.prog)
include Hh
theorem Z74 {md:Int} (m1:1<=md) (m3:md<=3) {h:Hq} (hst:h.get 0=some Bt) (l0:0<h.next) (lf:∀ p,Y4 K 106 (.c (.slice p 0 162 256))=true) (lt:Y4 K 58 (.c .snil)=true) :
  ∃ h' n d d1 d2 r q,Zb 16 [.g [.int .i64 2,.int .i64 60,.int .i64 32,.int .i64 40,.int .u8 md,.snil]] h (.tup [.g [.ptr (n+13) 0,.ptr r 0,.ptr d 0,.ptr q 0],.c (.bool true)]) h'/\ClD n d d1 d2 2 60 32 40 md Zaa h'/\h.next<=n/\∀ m,m<h.next->h'.get m=h.get m:=by
 have cM:∀ h,Zb 47 [.g [.int .i64 2,.int .i64 60,.int .i64 32,.int .i64 40]] h (.tup [.c (.slice h.next 0 162 256),.c (.int .i64 0)]) (h.new (.row 256 Zaa false)):=fun h=>Z3s Hh rfl
 have r64:Zm 6 [[.int .i64 2,.int .i64 60,.int .i64 32,.int .i64 40,.int .u8 md,.snil]] 0 4=some [.int .i64 2,.int .i64 60,.int .i64 32,.int .i64 40]:=rfl
 have r44:∀ a b c d:C,Zm 4 [[a,b,c,d]] 0 4=some [a,b,c,d]:=fun _ _ _ _=>rfl
 have il:Zaa.length=162:=kR
 have im:imB Zaa=true:=kR
 have f4:Yu 2 60 32 40=true:=kR
 obtain⟨I,hI⟩:=xzE (Zaa)
 simp only[hI] at cM il im ⊢
 obtain⟨v,h',cc,n,d,d1,d2,r,q,rfl,M,nn,hk⟩:∃ v h',Zb 16 [.g [.int .i64 2,.int .i64 60,.int .i64 32,.int .i64 40,.int .u8 md,.snil]] h v h'/\∃ n d d1 d2 r q,v=.tup [.g [.ptr (n+13) 0,.ptr r 0,.ptr d 0,.ptr q 0],.c (.bool true)]/\ClD n d d1 d2 2 60 32 40 md I h'/\h.next<=n/\∀ m,m<h.next->h'.get m=h.get m:=by
  refine Ym Hh Tryz.f16 ?_
  have Jf:=L8 @r64 @il @im @f4 @lf @lt
  iterate 3 (first|refine Zn Hh Za Gj ?_|apply gS)
  iterate 17 (first|refine Goes.Zi Gj ?_|refine Zn Hh (Y3 Za cM) Gj ?_|apply gS)
  iterate 2 (first|refine Zn Hh (EY Za (Zy6 Hh)) Gj ?_|apply gS)
  refine Jq fun hA eA=>?_
  have nA:hA.next=h.next+6:=nxQ eA
  have kA:∀ m,m<h.next->hA.get m=h.get m:=kQ eA
  have b0:hA.get h.next=some (.row 6 [[.int .i64 2,.int .i64 60,.int .i64 32,.int .i64 40,.int .u8 md,.snil]] false):=by rw[eA]; exact Yi
  obtain⟨w,wl,b1⟩:∃ w:List C,w.length=4/\hA.get (h.next+1)=some (.row 4 [w] false):=⟨_,rfl,by rw[eA]; exact Yi⟩
  have b2:hA.get (h.next+2)=some (.row 256 I false):=by rw[eA]; exact Yi
  have b4:hA.get (h.next+4)=some (.row 256 I false):=by rw[eA]; exact Zt
  have b5:hA.get (h.next+5)=some (.row 6 [dkL ⟨h.next+3,h.next+4,162,.snil,0,0⟩] false):=by rw[eA]; exact Zt
  have sA:=(kA 0 l0).trans hst
  clear eA
  obtain⟨hB,q,m,sz,x,c11,q1,q2,q3,q4,kB⟩:=Yc9 Hh b2 oM il (lf _)
  have B0:=(kB h.next oM).trans b0
  have B4:=(kB _ oM).trans b4
  have B5:=(kB _ oM).trans b5
  have sB:=(kB 0 oM).trans sA
  obtain⟨N,hN⟩:∃ N,hB.next=N+5:=⟨hB.next - 5,oM⟩
  iterate 7 (first|((first|apply Goes.Zi|apply gO fits Hh (Zj Za c11)); · simp (maxSteps:=9^6) +decide (disch:=first|exact dZ|fail) only [go_sem,Zh,simprocAttr,Z7,r64,il,im,f4,lf,lt,b0,B0,B5,Yt,Zr,Jl,read1]<;>rfl)|apply gS)
  iterate 2 (first|(apply gO fits Hh (EY Za (Z4a Hh)); · simp (maxSteps:=9^6) +decide (disch:=first|exact dZ|fail) only [go_sem,Zh,simprocAttr,r64,il,im,f4,lf,lt,b0,B0,B5,Yt,Zr,Jl,read1]<;>rfl)|apply gS)
  refine Jq fun hC eC=>?_
  have ND:=Yd6 (h:=hB) oM sB (d:=h.next+5) (d1:=h.next+3) (d2:=h.next+4) (a:=2) (b:=60) (c:=32) (e:=40) (L:=I) oM oM B5 B4 md
  have eC':hC=Qc hB (h.next+5) 2 60 32 40 md 1:=eC
  rw[<-eC',show hB.next - 5=N by omega] at ND
  obtain⟨MC,nC,kC⟩:=ND
  clear eC eC'
  have C0:=(kC h.next oM).trans B0
  have Cq:=(kC q q2).trans q3
  obtain⟨hD,s,c15,nD,kD⟩:=Yej Hh Cq q4 oM m1 m3 (lf _)
  have D1:=(kD (h.next+1) oM).trans ((kC _ oM).trans ((kB _ oM).trans b1))
  have nB6:h.next+6<=hD.next:=oM
  iterate 4 (first|(apply gO fits Hh (Zj Za c15); · simp (maxSteps:=9^6) +decide (disch:=first|exact dZ|fail) only [go_sem,Zh,simprocAttr,Z7,r64,il,im,f4,lf,lt,b0,B0,B5,C0,D1,wl,r44,Yt,Zr,Jl,read1]<;>rfl)|apply gS)
  refine⟨_,_,(by have Jf:=@r44; exact Zt),N,h.next+5,h.next+3,h.next+4,s,q,?_,(MC.keep nD fun m hm=>kD m (by have:=MC.nx; omega)).but (w:=h.next+1) ?_ ⟨oM,oM,oM,oM⟩ (fun m hm hne=>?_),oM,fun m hm=>?_⟩
  ·rw[hN]
  ·first|omega|(simp only[H.Zf,H.Ze]<;>omega)
  ·exact Yn
  ·refine Eq.trans ?_ ((kD m oM).trans ((kC m oM).trans ((kB m oM).trans (kA m hm)))); exact Yn
 exact⟨h',n,d,d1,d2,r,q,cc,M,nn,hk⟩
end
def V4 (z:Nat):Lq:=unN ((Zaa[z]?).getD [])
theorem Z80:∀ z,z<162->(V4 z).length=256/\Zaa[z]? = some (pgL (V4 z)):=by
 have il:Zaa.length=162:=kR
 have ib:Zaa.all (fun x=>Nat.beq x.length 256&&Zpr x)=true:=kR
 intro z hz
 have hx:Zaa[z]? = some Zaa[z]:=lG oM
 have:=List.all_eq_true.1 ib _ (List.getElem_mem (by omega:z<Zaa.length))
 rw[aQ] at this
 obtain⟨ns,e,nl⟩:=Zgn this.2
 have xl:=bQ this.1
 have hx':Zaa[z]? = some (pgL ns):=hx.trans (congrArg some e)
 have v:V4 z=ns.map (· % 256):=by unfold V4; rw[hx',Option.getD_some,Gr]
 rw[v]
 refine⟨by rw[List.length_map,nl]; exact xl,?_⟩
 rw[hx',Zth]
open Go.Ev
theorem Vy:Yu 2 60 32 40=true:=kR
def gT (t:Nat):Nat->Bool:=fun j=>decide (j<t) || decide (32<=j)
structure ISt (V:Nat->Lq) (t:Nat):Prop where
 bm:V (2+40+1)=Zb5 (gT t)
 old:∀ i:Nat,t+1<=i->i<=4->gI 2 60 32 40 V (i:Int)=(ino0,0)
theorem Z70:∀ i:Nat,2<=i->i<=4->gI 2 60 32 40 V4 (i:Int)=(ino0,0)
 | 0,h,_=>by omega
 | 1,h,_=>by omega
 | 2,_,_=>kR
 | 3,_,_=>kR
 | 4,_,_=>kR
 | n+5,_,h=>by omega
theorem ISt.init:ISt V4 1:=⟨kR,Z70⟩
theorem ISt.keep {V V':Nat->Lq} {t:Nat} (o:ISt V t) (hb:V' (2+40+1)=V (2+40+1)) (hg:∀ i:Nat,t+1<=i->i<=4->gI 2 60 32 40 V' (i:Int)=gI 2 60 32 40 V (i:Int)):ISt V' t:=⟨hb.trans o.bm,fun i h1 h2=>(hg i h1 h2).trans (o.old i h1 h2)⟩
theorem Ybv {t:Nat} (h:t<4):Y0 60 32 40 t=2+40+2:=by
 unfold Y0
 rw[Nat.div_eq_of_lt (show t<32 by omega),Nat.mod_eq_of_lt (show t<32 by omega)]
 omega
theorem Zzk {a b c m i1 w1 i0 w0:Nat} {iw:Nat->Nat × Nat} (ha:1<=a) (e0:iw 0=(i0,w0)):(DG a b c iw m).set 0 (fF b c - min (fF b c) (m - 0 * fF b c),i1,w1)=DG a b c (upJ iw 0 (i1,w1)) m:=by
 apply List.ext_getElem?
 intro i
 rcases Nat.lt_or_ge i a with q|q
 ·rcases Nat.eq_zero_or_pos i with rfl|p
  ·rw[List.getElem?_set_self (by rw[Ry]; exact q),Zfp q,Y7]
  ·rw[List.getElem?_set_ne oM,Zfp q,Zfp q,Ji oM]
 ·rw[lN (by rw[List.length_set,Ry]; exact q),lN (by rw[Ry]; exact q)]
section
variable (Hh:Hearts K Tryz.prog)
include Hh
variable {n q:Nat} {cr:Cr} [Opn cr] {md:Int} {S:Lq} {iw:Nat->Nat × Nat} {V:Nat->Lq} {m:Nat} {J:Lq} {bl:Nat->Nat} {N:Nat->List UInt8->Nat} {h:Hq} {t i0 w0:Nat}
theorem Yb7 (M:HE n q 2 60 32 40 cr md S [] V h) (T:TSt 2 60 32 40 iw V m J bl N) (o:ISt V t) (t1:1<=t) (t4:t<4) (nJ:t ∉ J) (e0:iw 0=(i0,w0)) (io:Zbm 32 iw) (i1:1<=i0) (iw':w0+i0<=32) {kq:Nat} (kk:kq=1\/kq=2) {near:Nat} (nr:1<=near/\near<=32) (s1:1∈S) (s3:2+40+1∈S) (s2:2+40+2∈S) :
  ∃ h' V',Zb 22 [.c (.ptr (n+13) 0),.c (.int .u8 (kq:Int)),.c (.int .i64 (near:Int))] h (.tup [.c (.int .i64 ((t+1:Nat):Int)),.c (.int .i64 0)]) h'/\HE n q 2 60 32 40 cr md S [] V' h'/\Kp n q h h'/\TSt 2 60 32 40 (upJ iw 0 (i0 - 1,Lx (kq:Int) w0)) V' m J bl N/\ISt V' (t+1)/\gI 2 60 32 40 V' ((t+1:Nat):Int)=(Rm kq 1 1 0 (fun _=>0) 0,0)/\(∀ i:Nat,i≠t->gI 2 60 32 40 V' ((i+1:Nat):Int)=gI 2 60 32 40 V ((i+1:Nat):Int))/\Zbm 32 (upJ iw 0 (i0 - 1,Lx (kq:Int) w0))/\∀ w,w≠1->w≠2+40+1->w≠2+40+2->V' w=V w:=by
 have f:=Vy
 have F:=Z5 f
 obtain⟨A1,A2,A3⟩:=T.al
 have bt:=Ybv t4
 have dn:Lx (kq:Int) w0<=w0+1:=by
  unfold Lx; split<;>omega
 have io':Zbm 32 (upJ iw 0 (i0 - 1,Lx (kq:Int) w0)):=fun k=>by
  by_cases e:k=0
  ·subst e; rw[Y7]; show Lx (kq:Int) w0+(i0 - 1)<=32; omega
  ·rw[Ji e]; exact io k
 have may:=Zmq (a:=2) (b:=60) io' (m:=m)
 have kI:(kq:Int)=1\/(kq:Int)=2:=by rcases kk with rfl|rfl; exact .inl rfl; exact .inr rfl
 have G:GrpH 2 60 32 40 S [] V (DG 2 60 32 iw m) (kq:Int) (gT t) 0 t (fF 60 32 - min (fF 60 32) (m - 0 * fF 60 32)) i0 w0 0 ino0:=by
  refine⟨oM,fun i hi=>?_,?_,oM,kI,?_,A2,?_,rfl,rfl,oM,?_,i1,oM,oM,?_,?_,⟨s1,by simp⟩,?_⟩
  ·unfold gT; rw[decide_eq_true hi]; rfl
  ·unfold gT; rw[decide_eq_false oM,decide_eq_false oM]; rfl
  ·rw[Nat.zero_mul,Nat.add_zero]; exact o.bm
  ·rw[Nat.zero_mul,Nat.zero_add]; exact o.old (t+1) oM oM
  ·rw[Zfp oM,e0]
  ·rw[Zzk oM e0]; exact may
  ·rw[Nat.zero_mul,Nat.zero_add,bt]; exact⟨s2,by simp⟩
  ·rw[Nat.zero_mul,Nat.add_zero]; exact⟨s3,by simp⟩
 obtain⟨h',cc,M',nn,kp⟩:=Z7q Hh f M (near:=(near:Int)) (k:=0) (by
  unfold Zf2
  rw[if_pos ⟨oM,oM⟩,Int.toNat_natCast]
  exact Nat.div_eq_of_lt oM) G
 have l1:(V (Y0 60 32 40 t)).length=256:=by
  rw[bt]
  exact M.len (Df F oM oM) oM
 have hV:Zrl 60 32 40 V (DG 2 60 32 iw m) (kq:Int) (gT t) 0 t (fF 60 32 - min (fF 60 32) (m - 0 * fF 60 32)) i0 w0 0=Gp (Gp (Gp V (2+40+1) (Zb5 (Tg (gT t) t))) 1 (Zeg (DG 2 60 32 (upJ iw 0 (i0 - 1,Lx (kq:Int) w0)) m))) (Y0 60 32 40 t) (Ed (V (Y0 60 32 40 t)) (La 32 t) kq 1 1 0 [0,0,0,0,0,0,0,0,0,0,0] 0):=by
  rw[<-Zzk (i1:=i0 - 1) (w1:=Lx (kq:Int) w0) oM e0]
  unfold Zrl
  rw[Nat.zero_mul 32,Nat.zero_add t]
  rfl
 rw[hV] at M'
 have n1:Y0 60 32 40 t≠1:=oM
 have n2:Y0 60 32 40 t≠2+40+1:=oM
 obtain⟨W,hW⟩:=xzE (Gp (Gp V (2+40+1) (Zb5 (Tg (gT t) t))) 1 (Zeg (DG 2 60 32 (upJ iw 0 (i0 - 1,Lx (kq:Int) w0)) m)))
 have Wb:W (Y0 60 32 40 t)=V (Y0 60 32 40 t):=by rw[<-hW,Jo n1,Jo n2]
 rw[hW,<-Wb] at M'
 have Wl:(W (Y0 60 32 40 t)).length=256:=by rw[Wb]; exact l1
 have Wg:∀ i,gI 2 60 32 40 W i=gI 2 60 32 40 V i:=fun i=>by
  rw[<-hW,Za3 (Zpq F (.inl oM)),Za3 (Zpq F (.inr ⟨0,.inl oM⟩))]
 rw[Nat.zero_mul,Nat.zero_add] at cc
 have gN:∀ i:Nat,i≠t->gI 2 60 32 40 (Gp W (Y0 60 32 40 t) (Ed (W (Y0 60 32 40 t)) (La 32 t) kq 1 1 0 [0,0,0,0,0,0,0,0,0,0,0] 0)) ((i+1:Nat):Int)=gI 2 60 32 40 V ((i+1:Nat):Int):=fun i hi=>by
  rw[Zv1 F Wl hi rfl,Wg]
 obtain⟨gd,td⟩:=Zk7 f (D:=DG 2 60 32 (upJ iw 0 (i0 - 1,Lx (kq:Int) w0)) m) Ry may
 have oth:∀ w,w≠1->w≠2+40+1->w≠2+40+2->Gp W (Y0 60 32 40 t) (Ed (W (Y0 60 32 40 t)) (La 32 t) kq 1 1 0 [0,0,0,0,0,0,0,0,0,0,0] 0) w=V w:=fun w w1 w2 w3=>by
  rw[Jo (by rw[bt]; exact w3),<-hW,Jo w1,Jo w2]
 refine⟨h',_,cc,M',⟨nn,kp⟩,T.other ⟨fun k hk=>?_,⟨?_,?_,Ry⟩,may⟩ (fun j hj=>gN j fun e=>nJ (e ▸ hj)) (fun k _=>?_),⟨?_,fun i h1 h2=>?_⟩,?_,gN,io',oth⟩
 ·rw[oth _ oM oM oM]
  exact A1 k hk
 ·rw[Jo (Ne.symm n1),<-hW,Bg]; exact gd
 ·rw[Jo (Ne.symm n1),<-hW,Bg]; exact td
 ·exact oth _ (fun w=>by unfold Fs at w; omega) (fun w=>Vt (m:=k) f (k:=0) (r:=1) oM oM) (fun w=>Vt (m:=k) f (k:=0) (r:=2) oM oM)
 ·rw[Jo (Ne.symm n2),<-hW,Jo oM,Bg]
  refine congrArg Zb5 (funext fun j=>?_)
  unfold Tg gT
  rw[Bool.eq_iff_iff]
  simp only[Bool.or_eq_true,decide_eq_true_eq]
  omega
 ·obtain⟨k,rfl⟩:∃ k,i=k+1:=⟨i - 1,oM⟩
  rw[gN k oM]
  exact o.old _ oM h2
 ·rcases kk with rfl|rfl
  ·rw[Zni (j:=t) oM Wl oM oM oM oM (fun v hv=>by simp at hv; omega) oM kR]
   rfl
  ·rw[Zni (j:=t) oM Wl oM oM oM oM (fun v hv=>by simp at hv; omega) oM kR]
   rfl
end
end
end Go.Proofs.YtmanipmhebgdbaaGreatDoor
