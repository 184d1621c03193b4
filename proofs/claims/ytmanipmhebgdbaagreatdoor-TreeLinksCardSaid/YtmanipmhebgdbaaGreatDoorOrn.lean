/- quernref02.Sum, on the evaluator's level. -/
import Derived.Test.YtmanipmhebgdbaaGreatDoorMake3
import Derived.Test.YtmanipmhebgdbaaGreatDoorTrc
import Derived.Test.YtmanipmhebgdbaaGreatDoorIth
set_option maxRecDepth 100000
set_option maxHeartbeats 4000000
set_option linter.unusedSimpArgs false
set_option linter.unusedVariables false
set_option linter.unusedSectionVars false
namespace Go.Proofs.YtmanipmhebgdbaaGreatDoor
open Go.Ev
noncomputable section
def Qd (v:Nat):Nat:=bif Nat.beq (v % 2) 1 then Nat.xor (v / 2) 3988292384 else v / 2
def shifts:Nat->Nat->Nat
 | 0,v=>v
 | k+1,v=>shifts k (Qd v)
def Zul:Lq->Nat->Nat
 | [],v=>v
 | b :: l,v=>Zul l (shifts 8 (Nat.xor v b))
def Zzr (l:Lq):Nat:=4294967295 - Zul l 4294967295
theorem Zmm {v:Nat} (h:v<4294967296):Qd v<4294967296:=by
 unfold Qd
 cases Nat.beq (v % 2) 1 with
 | true=>exact Nat.xor_lt_two_pow (n:=32) oM oM
 | false=>show v / 2<_; omega
theorem Zmn:∀ (k:Nat) {v:Nat},v<4294967296->shifts k v<4294967296
 | 0,_,h=>h
 | k+1,_,h=>Zmn k (Zmm h)
def q246 (p:Lq):Code:=piece p (J7 Tryz.f246)
theorem Zt8:q246 [1,1,0,1,2]=.loop (q246 [1,1,0,1,2,2]):=kR
theorem Zfp:q246 [1,1,0,1,2,2,1,0,2,1,1]=.block 2 (q246 [1,1,0,1,2,2,1,0,2,1,1,2]):=kR
theorem Zea:q246 [1,1,0,1,2,2,1,0,2,1,1,2]=.loop (q246 [1,1,0,1,2,2,1,0,2,1,1,2,2]):=kR
def q287 (p:Lq):Code:=piece p (J7 Tryz.f287)
section
variable (Hh:Hearts K Tryz.prog)
include Hh
theorem Z8c (v:Nat) (hv:v<4294967296) (h:Hq):Zb 287 [.c (.int .u32 v)] h (.w (.c (.int .u32 (Qd v)))) h:=by
 have e0:Zg (Ug 0 [.c (.int .u32 (v:Int))] .nil) 0=.w (.c (.int .u32 v)):=by rw[Uw]; rfl
 refine Zu.goes fits Hh kR kR kR (show Tryz.f287.body=some (q287 []) by kernel_rfl) rfl ?_
 have r1:Rj .u32 (v:Int) 2=some (.int .u32 ((v % 2:Nat):Int)):=by
  show some (C.int .u32 ((v:Int).tmod 2))=_
  congr 2
 have r2:Va .u32 (v:Int) 2=some (.int .u32 ((v / 2:Nat):Int)):=by
  show some (Jk .u32 ((v:Int).tdiv 2))=_
  rw[show (v:Int).tdiv 2=((v / 2:Nat):Int) from rfl,Zem oM]
 have e1:Tryz.f287.results.toList=[.tmp 2]:=rfl
 by_cases hc:v % 2=1
 ·have d1:(((v % 2:Nat):Int) == 1)=true:=by rw[hc]; rfl
  have x1:Db .u32 Nat.xor ((v / 2:Nat):Int) 3988292384=.int .u32 (Nat.xor (v / 2) 3988292384:Nat):=Zf9 (b:=3988292384) oM oM
  have e2:Qd v=Nat.xor (v / 2) 3988292384:=by unfold Qd; rw[hc]; rfl
  rw[e2]
  show Z8 11 none _ _ _ _ _
  iterate 9 (first|apply Z6|apply Yc|((first|apply gZ|apply gO fits Hh Za); · simp (decide:=true) only [go_sem,Zz,H.get_put,H.Zq,Zi,Z9,reduceIte,Nat.reduceAdd,Nat.reduceMul,Z4,Ya,asC,Zp,Yz,Yo,e0,r1,r2,d1,x1]<;>rfl))
  simp (decide:=true) only [Et,Ji,finish,e1,Jb,evalW,Ya,asW,Zp,reduceIte,Ue]
 ·have d1:(((v % 2:Nat):Int) == 1)=false:=by rw[show v % 2=0 by omega]; rfl
  have e2:Qd v=v / 2:=by unfold Qd; rw[show v % 2=0 by omega]; rfl
  rw[e2]
  show Z8 11 none _ _ _ _ _
  iterate 10 (first|apply Z6|apply Yt|apply Yc|((first|apply gZ|apply gO fits Hh Za); · simp (decide:=true) only [go_sem,Zz,H.get_put,H.Zq,Zi,Z9,reduceIte,Nat.reduceAdd,Nat.reduceMul,Z4,Ya,asC,Zp,Yz,Yo,e0,r1,r2,d1]<;>rfl))
  simp (decide:=true) only [Et,Ji,finish,e1,Jb,evalW,Ya,asW,Zp,reduceIte,Ue]
theorem Z30 (h:Hq):∀ (k i v:Nat) (ts:Zx),i+k=8->v<4294967296->Zg ts 3=.w (.c (.int .u32 v))->Zg ts 5=.w (.c (.int .i64 i)) ->
  Z8 27 none (q246 [1,1,0,1,2,2,1,0,2,1,1,2]) [] ts h fun x ds' ts' h'=>x=.exit 2/\ds'=[]/\h'=h/\Zg ts' 3=.w (.c (.int .u32 (shifts k v)))/\Zg ts' 0=Zg ts 0/\Zg ts' 4=Zg ts 4:=by
 intro k
 induction k with
 | zero =>
  intro i v ts hi hv h3 h5
  have ei:i=8:=oM
  subst ei
  iterate 6 (first|apply Z6|apply Bv|apply Ea|((first|apply gZ|apply gO fits Hh Za); · simp (decide:=true) only [go_sem,Zz,H.get_put,H.Zq,Zi,Z9,reduceIte,Nat.reduceAdd,Nat.reduceMul,Z4,Ya,asC,Zp,Yz,Yo,h5]<;>rfl))
  refine⟨rfl,rfl,rfl,?_,?_,?_⟩
  ·simp (decide:=true) only [Zp,reduceIte,h3,shifts]
  ·exact tY
  ·exact tY
 | succ k ih =>
  intro i v ts hi hv h3 h5
  have d1:decide ((i:Int)<8)=true:=decide_eq_true oM
  have w1:Jk .i64 ((i:Int)+1)=.int .i64 ((i+1:Nat):Int):=by rw[wrap64 oM oM]; congr 1
  iterate 8 (first|apply Z6|apply Yt|apply Og|apply Ea|((first|apply gZ|apply gO fits Hh Za); · simp (decide:=true) only [go_sem,Zz,H.get_put,H.Zq,Zi,Z9,reduceIte,Nat.reduceAdd,Nat.reduceMul,Z4,Ya,asC,Zp,Yz,Yo,h3,h5,d1,w1]<;>rfl))
  (apply gO fits Hh (Zj Za (Z8c Hh v hv h)); · simp (decide:=true) only [go_sem,Zz,H.get_put,H.Zq,Zi,Z9,reduceIte,Nat.reduceAdd,Nat.reduceMul,Z7,h3,h5,d1,w1]<;>rfl)
  (apply gO fits Hh Za; · simp (decide:=true) only [go_sem,Zz,H.get_put,H.Zq,Zi,Z9,reduceIte,Nat.reduceAdd,Nat.reduceMul,h3,h5,d1,w1]<;>rfl)
  show Z8 27 none (.loop (q246 [1,1,0,1,2,2,1,0,2,1,1,2,2])) _ _ _ _
  rw[<-Zea]
  refine (ih (i+1) (Qd v) _ oM (Zmm hv) ?_ ?_).mono ?_
  ·exact tY
  ·exact tY
  ·rintro x ds' ts' h' ⟨e1,e2,e3,e4,e5,e6⟩
   refine⟨e1,e2,e3,e4,?_,?_⟩
   ·rw[e5]; simp (decide:=true) only [Zp,reduceIte]
   ·rw[e6]; simp (decide:=true) only [Zp,reduceIte]
theorem Z31 (h:Hq) (n off len:Nat) (o:O) (ho:h.get n=some o) (hlen:len<4294967296):∀ (l:Lq) (i v:Nat) (ts:Zx),i+l.length=len->(∀ j (b:Nat),l[j]? = some b->b<256/\Zi ti5 (off+(i+j)) (some o)=some (.c (.int .u8 (b:Int))))->v<4294967296->Zg ts 0=.w (.c (.slice n off len 1))->Zg ts 3=.w (.c (.int .u32 v))->Zg ts 4=.w (.c (.int .i64 i)) ->
  Z8 27 none (q246 [1,1,0,1,2]) [] ts h fun x ds' ts' h'=>x=.exit 0/\ds'=[]/\h'=h/\Zg ts' 3=.w (.c (.int .u32 (Zul l v)))/\Zul l v<4294967296:=by
 intro l
 induction l with
 | nil =>
  intro i v ts hi hl hv h0 h3 h4
  have d1:decide ((i:Int)<(len:Int))=false:=decide_eq_false (by simp at hi; omega)
  have fl:Y3 K 73 (.c (.slice n off len 1))=true:=by unfold Y3; rw[Rx]; rfl
  iterate 6 (first|apply Z6|apply Bv|apply Ea|((first|apply gZ|apply gO fits Hh Za); · simp (decide:=true) only [go_sem,Zz,H.get_put,H.Zq,Zi,Z9,reduceIte,Nat.reduceAdd,Nat.reduceMul,Z4,Ya,asC,Zp,Yz,Yo,h0,h4,d1,fl,Zt,Jn]<;>rfl))
  refine⟨rfl,rfl,rfl,?_,hv⟩
  simp (decide:=true) only [Zp,reduceIte,h3,Zul]
 | cons b l ih =>
  intro i v ts hi hl hv h0 h3 h4
  simp only[List.length_cons] at hi
  have d1:decide ((i:Int)<(len:Int))=true:=decide_eq_true oM
  have fl:Y3 K 73 (.c (.slice n off len 1))=true:=by unfold Y3; rw[Rx]; rfl
  have w1:Jk .i64 ((i:Int)+1)=.int .i64 ((i+1:Nat):Int):=by rw[wrap64 oM oM]; congr 1
  have b1:Nat.blt i len=true:=Gu oM
  obtain⟨hb,ld⟩:=hl 0 b rfl
  rw[Nat.add_zero] at ld
  have w2:Jk .u32 (b:Int)=.int .u32 (b:Int):=Zem oM
  have x1:=Zf9 hv (show b<4294967296 by omega)
  have hx:Nat.xor v b<4294967296:=Nat.xor_lt_two_pow (n:=32) hv oM
  iterate 12 (first|apply Z6|apply Yt|apply Og|apply Ea|((first|apply gZ|apply gO fits Hh Za); · simp (decide:=true) only [go_sem,Zz,H.get_put,H.Zq,Z9,reduceIte,Nat.reduceAdd,Nat.reduceMul,Z4,Ya,asC,Zp,Yz,Yo,h0,h3,h4,d1,fl,w2,b1,ho,ld,x1,Zt,Jn,Rx,Te,Z9t,Znu,Yc5,Zaz,Nat.beq_refl,Nat.mul_one]<;>rfl))
  show Z8 27 none (q246 [1,1,0,1,2,2,1,0,2,1,1]) _ _ _ _
  rw[Zfp]
  refine Og ((Z30 Hh h 8 0 (Nat.xor v b) _ rfl hx ?_ ?_).mono ?_)
  ·exact tY
  ·simp (decide:=true) only [Zp,reduceIte]
   rfl
  rintro x ds' ts' h' ⟨rfl,rfl,rfl,e3,e0,e4⟩
  have f0:Zg ts' 0=.w (.c (.slice n off len 1)):=by rw[e0]; simp (decide:=true) only [Zp,reduceIte,h0]
  have f4:Zg ts' 4=.w (.c (.int .i64 i)):=by rw[e4]; simp (decide:=true) only [Zp,reduceIte,h4]
  (apply gO fits Hh Za; · simp (decide:=true) only [go_sem,Zz,H.get_put,H.Zq,Zi,Z9,reduceIte,Nat.reduceAdd,Nat.reduceMul,f0,f4,e3,w1]<;>rfl)
  show Z8 27 none (.loop (q246 [1,1,0,1,2,2])) _ _ _ _
  rw[<-Zt8]
  refine ih (i+1) _ _ oM (fun j c hc=>?_) (Zmn 8 hx) ?_ ?_ ?_
  ·have:=hl (j+1) c (by simpa using hc)
   rwa [show i+(j+1)=i+1+j by omega] at this
  ·exact tZ f0
  ·exact tZ e3
  ·exact tY
theorem Yed (h:Hq) (n off:Nat) (o:O) (l:Lq) (ho:h.get n=some o) (hlen:l.length<4294967296) (hl:∀ j (b:Nat),l[j]? = some b->b<256/\Zi ti5 (off+j) (some o)=some (.c (.int .u8 (b:Int)))) :
  Zb 246 [.c (.slice n off l.length 1)] h (.w (.c (.int .u32 (Zzr l)))) h:=by
 have e0:Zg (Ug 0 [.c (.slice n off l.length 1)] .nil) 0=.w (.c (.slice n off l.length 1)):=by rw[Uw]; rfl
 refine Zu.goes fits Hh kR kR kR (show Tryz.f246.body=some (q246 []) by kernel_rfl) rfl ?_
 have e1:Tryz.f246.results.toList=[.tmp 2]:=rfl
 show Z8 27 none _ _ _ _ _
 iterate 8 (first|apply Z6|apply Og|(apply gO fits Hh Za; · simp (decide:=true) only [go_sem,Zz,H.get_put,H.Zq,Zi,Z9,reduceIte,Nat.reduceAdd,Nat.reduceMul,e0]<;>rfl))
 show Z8 27 none (q246 [1,1,0,1,2]) _ _ _ _
 refine (Z31 Hh h n off l.length o ho hlen l 0 4294967295 _ oM ?_ oM ?_ ?_ ?_).mono ?_
 ·intro j b hb
  rw[Nat.zero_add]
  exact hl j b hb
 ·exact tZ e0
 ·simp (decide:=true) only [Zp,reduceIte]
  rfl
 ·simp (decide:=true) only [Zp,reduceIte]
  rfl
 rintro x ds' ts' h' ⟨rfl,rfl,rfl,e3,hlt⟩
 have w1:Jk .u32 (4294967295 - (Zul l 4294967295:Int))=.int .u32 (Zzr l:Int):=by
  have e:4294967295 - (Zul l 4294967295:Int)=((Zzr l:Nat):Int):=by unfold Zzr; omega
  rw[e,Zem (by unfold Zzr; omega)]
 iterate 3 (first|apply Z6|apply Yc|(apply gO fits Hh Za; · simp (decide:=true) only [go_sem,Zz,H.get_put,H.Zq,Zi,Z9,reduceIte,Nat.reduceAdd,Nat.reduceMul,e3,w1]<;>rfl))
 simp (decide:=true) only [Et,Ji,finish,e1,Jb,evalW,Ya,asW,Zp,reduceIte,Ue]
end
def Z5c (h:Hq) (off len:Nat):Option O->Option (V × Hq)
 | some (.row sz els _)=>bif Nat.ble (off % sz+len) sz&&Nat.blt len 4294967296 then (match Zn sz els off len with
  | some l=>(match Oq l with
   | some bs=>some (.w (.c (.int .u32 (Zzr bs:Nat))),h)
   | none=>none)
  | none=>none) else none
 | _=>none
def Ycc (args:List W) (h:Hq):Option (V × Hq):=match args with
 | [.c (.slice n off len 1)]=>Z5c h off len (h.get n)
 | _=>none
def Z9g (a b c d:Nat):Bool:=Nat.ble 1 a&&Nat.ble a 4&&Nat.ble 16 b&&Nat.ble b 512&&Nat.ble 4 c&&Nat.ble c 64&&Nat.beq (c % 4) 0&&Nat.ble 40 d&&Nat.ble d 256&&Nat.ble (3+c / 4) b&&Nat.ble (2+d+a * b) 2048
theorem Zth {a b c d:Nat} (h:Z9g a b c d=true):Fine a b c d:=by
 simp only[Z9g,aQ] at h
 obtain⟨⟨⟨⟨⟨⟨⟨⟨⟨⟨h1,h2⟩,h3⟩,h4⟩,h5⟩,h6⟩,h7⟩,h8⟩,h9⟩,h10⟩,h11⟩:=h
 exact⟨lQ h1,lQ h2,lQ h3,lQ h4,lQ h5,lQ h6,bQ h7,lQ h8,lQ h9,lQ h10,lQ h11⟩
def isQ (a b c d:Nat):Bool:=Nat.beq a 2&&Nat.beq b 60&&Nat.beq c 32&&Nat.beq d 40
def Z4k (args:List W) (h:Hq):Option (V × Hq):=match args with
 | [.g [.int .i64 (.ofNat a),.int .i64 (.ofNat b),.int .i64 (.ofNat c),.int .i64 (.ofNat d)]]=>bif isQ a b c d then some (.w (.c (.int .i64 (Nq (Ec a b c d):Nat))),h) else none
 | _=>none
def x1:Kn:=fun f args h=>bif Nat.beq f 246 then Ycc args h else bif Nat.beq f 99 then Z4k args h else none
section
variable (Hh:Hearts K Tryz.prog)
include Hh
theorem Z88 {args:List W} {h h':Hq} {v:V} (e:Ycc args h=some (v,h')):Zb 246 args h v h':=by
 unfold Ycc at e
 split at e
 ·rename_i n off len
  unfold Z5c at e
  split at e
  ·rename_i sz els ro ho
   cases hb:(Nat.ble (off % sz+len) sz&&Nat.blt len 4294967296) with
   | false=>rw[hb] at e; cases e
   | true =>
    rw[hb] at e
    simp only[aQ] at hb
    simp only[cond_true] at e
    split at e
    ·rename_i l hl
     split at e
     ·rename_i bs hbs
      cases e
      obtain⟨l1,l2⟩:=Zcd hl (lQ hb.1)
      obtain⟨n1,n2⟩:=Zcr hbs
      have hlen:bs.length=len:=oM
      have:=Yed Hh h n off (.row sz els ro) bs ho (by rw[hlen]; simpa [Nat.blt_eq] using hb.2) (fun j b hj=>by
       obtain⟨m1,m2⟩:=n2 j b hj
       refine⟨m1,?_⟩
       have hjl:j<len:=by
        rcases Nat.lt_or_ge j bs.length with h1|h1
        ·omega
        ·rw[lN h1] at hj; cases hj
       rw[Zi,Zc3,cond_false,l2 j hjl,m2]
       rfl)
      rw[hlen] at this
      exact this
     ·cases e
    ·cases e
  ·cases e
 ·cases e
theorem Z4l {args:List W} {h h':Hq} {v:V} (e:Z4k args h=some (v,h')):Zb 99 args h v h':=by
 unfold Z4k at e
 split at e
 ·rename_i a b c d
  cases hb:isQ a b c d with
  | false=>rw[hb] at e; cases e
  | true =>
   rw[hb] at e
   cases e
   simp only[isQ,aQ] at hb
   obtain⟨⟨⟨h1,h2⟩,h3⟩,h4⟩:=hb
   obtain rfl:=bQ h1
   obtain rfl:=bQ h2
   obtain rfl:=bQ h3
   obtain rfl:=bQ h4
   exact (rgK Hh).data h
 ·cases e
theorem Zxi:Zcj K Tryz.prog x1:=by
 intro f args h v h' e
 unfold x1 at e
 cases h1:Nat.beq f 246 with
 | true =>
  rw[h1] at e
  obtain rfl:=bQ h1
  exact Z88 Hh e
 | false =>
  rw[h1] at e
  cases h2:Nat.beq f 99 with
  | true =>
   rw[h2] at e
   obtain rfl:=bQ h2
   exact Z4l Hh e
  | false=>rw[h2] at e; cases e
end
def by8 (l:Lq):List C:=l.map fun (n:Nat)=>.int .u8 (n:Int)
def Zfw:List C:=by8 [81,82,78,49,1,0,0,1,2,0,60,0,32,0,40]++List.replicate 237 (.int .u8 0)++by8 [130,70,246,134]
def Zls:List C:=by8 [50,0,31,0,1,0,0,0,50,0,32]++List.replicate 241 (.int .u8 0)++by8 [230,113,170,239]
def Zl8:List C:=by8 [81,74,78,76,4,0,0,0,1]++List.replicate 247 (.int .u8 0)
def Z2k:List C:=match Zj0 (evX K x1 3000 (.call 104 [.g X7,.c (.int .i64 0),.g Z65] ⟨.nil,1⟩)) with
 | some (.tup (.g l :: _))=>l
 | _=>[]
theorem Ye9:Zj0 (evX K x1 3000 (.call 101 [.g [.int .i64 2,.int .i64 60,.int .i64 32,.int .i64 40,.int .u32 0]] ⟨.nil,1⟩))=some (.tup [.g Zfw,.c (.int .i64 0)]):=kR
theorem Yd9:Zj0 (evX K x1 3000 (.call 102 ([.g (Jt 2 60 32 40)]++[.c (.slice 1 0 2 3)]) ⟨.node none (.node (some (.row 3 (Zie 50 32 2) true)) .nil .nil) .nil,2⟩))=some (.tup [.g Zls,.c (.int .i64 0)]):=kR
theorem Ye7:Zj0 (evX K x1 3000 (.call 103 [.g Z2f] ⟨.nil,1⟩))=some (.tup [.g Zl8,.c (.int .i64 0)]):=kR
theorem Ye8:Zj0 (evX K x1 3000 (.call 104 [.g X7,.c (.int .i64 0),.g Z65] ⟨.nil,1⟩))=some (.tup [.g Z2k,.c (.int .i64 0)]):=kR
theorem Zmf (sz ino:Nat) (k a:Int) (h4:k≠4) (h5:k≠5):pack (U0 sz ino k a)=X7:=by
 have e:∀ t n,byteOf (U0 sz ino k a) t n=0:=fun t n=>by
  induction n with
  | zero=>rfl
  | succ n ih=>rw[byteOf,ih]; simp [U0,h4,h5]
 unfold pack X7
 refine List.ext_getElem (by simp) fun t h1 h2=>?_
 rw[List.getElem_replicate,List.getElem_map,e]
 rfl
def Yax:List C:=by8 [2,0,1,0,1]++List.replicate 251 (.int .u8 0)
def bm4:List C:=by8 [255,3,0,0,0,0,0,240]++List.replicate 248 (.int .u8 255)
def bm50:List C:=by8 [1,0,0,0]++List.replicate 252 (.int .u8 255)
def bm51:List C:=by8 [0,0,0,0]++List.replicate 252 (.int .u8 255)
theorem Zts:Z2k=Yax:=kR
theorem Z59:pack (U0 60 32 4 0)=bm4:=kR
theorem Yad (a:Int):pack (U0 60 32 4 a)=bm4:=by
 have e:U0 60 32 4 a=U0 60 32 4 0:=by funext i; rfl
 rw[e]
 exact Z59
theorem Z6a:pack (U0 60 32 5 0)=bm50:=kR
theorem bm51_1:pack (U0 60 32 5 1)=bm51:=kR
theorem Z6b {a:Int} (h:a≠0):pack (U0 60 32 5 a)=bm51:=by
 have e:U0 60 32 5 a=U0 60 32 5 1:=by funext i; simp [U0,h]
 rw[e]
 exact bm51_1
def Ycv (x:List C):Bool:=match x with
 | [.int _ k,.int _ a,_,.int _ d]=>(!(d == 1) || (k == 6&&a == 0))
 | _=>false
theorem Z5v:(Ec 2 60 32 40).all Ycv=true:=kR
theorem dn:Nq (Ec 2 60 32 40)=50:=kR
theorem len90:(Ec 2 60 32 40).length=162:=kR
theorem Z6f {b:Nat} {kd a c d:Int} (h:(Ec 2 60 32 40)[b]? = some (thing kd a c d)):d=1->kd=6/\a=0:=by
 have hm:=lM h
 have:=(List.all_eq_true.1 Z5v) _ hm
 simp only[thing,Ycv,aQ,Bool.or_eq_true,Bool.not_eq_true',beq_eq_false_iff_ne,beq_iff_eq] at this
 exact fun hd=>this.resolve_left (fun hn=>hn hd)
theorem fine2:Fine 2 60 32 40:=Zth kR
def Ycq (b:Nat) (x:List C):List C:=match x with
 | [.int _ k,.int _ a,_,.int _ d]=>if b=0 then Zfw else if b=1 then Zls else if b=2 then Zl8 else if d=1 then Yax else if k=4 then bm4 else if k=5 then (if a=0 then bm50 else bm51) else X7
 | _=>[]
def Ydi (a:Nat):List (List C):=[bm4,(if a=0 then bm50 else bm51),(if a=0 then Yax else X7)]++List.replicate 57 X7
def Zal:List (List C):=[Zfw,Zls,Zl8]++List.replicate 39 X7++(Ydi 0++Ydi 1)
theorem Ye4:(List.range (Ec 2 60 32 40).length).map (fun b=>Ycq b ((Ec 2 60 32 40)[b]?.getD []))=Zal:=kR
theorem Z3d:De Zfw Zls Zl8 Z2k 60 32 (Ec 2 60 32 40) (Ec 2 60 32 40).length=Zal:=by
 rw[<-Ye4]
 unfold De
 refine List.map_congr_left fun b hb=>?_
 have hb':=List.mem_range.1 hb
 rw[if_pos hb']
 obtain⟨kd,a,c,d,hx⟩:=Zgb 2 60 32 40 _ (List.getElem_mem hb')
 have hx':(Ec 2 60 32 40)[b]? = some (thing kd a c d):=by rw[lG hb',hx]
 rw[hx',Option.getD_some]
 simp only[thing,Zqc,Ycq,Zts]
 split
 ·rfl
 split
 ·rfl
 split
 ·rfl
 split
 ·rfl
 by_cases h4:kd=4
 ·rw[if_pos h4,h4]; exact Yad a
 rw[if_neg h4]
 by_cases h5:kd=5
 ·rw[if_pos h5,h5]
  by_cases ha:a=0
  ·rw[if_pos ha,ha]; exact Z6a
  ·rw[if_neg ha]; exact Z6b ha
 rw[if_neg h5]
 exact Zmf 60 32 kd a h4 h5
theorem Z2j:Zal.all (fun l=>l.all C.flat)=true:=kR
def isG:List W->Bool
 | [.g [.int .i64 (.ofNat a),.int .i64 (.ofNat b),.int .i64 (.ofNat c),.int .i64 (.ofNat d)]]=>Nat.beq a 2&&Nat.beq b 60&&Nat.beq c 32&&Nat.beq d 40
 | _=>false
def Z4o (args:List W) (h:Hq):Option (V × Hq):=bif isG args then some (.tup [.c (.slice h.next 0 162 256),.c (.int .i64 0)],h.new (.row 256 Zal false)) else none
def x2:Kn:=fun f args h=>bif Nat.beq f 47 then Z4o args h else bif Nat.beq f 317 then Z84 args h else bif Nat.beq f 85 then Zxl args h else x1 f args h
section
variable (Hh:Hearts K Tryz.prog)
include Hh
theorem Z8h:Special Tryz.prog 2 60 32 40 (Ec 2 60 32 40) (Zie (Nq (Ec 2 60 32 40)) 32 2) Zfw Zls Zl8 Z2k:=by
 refine⟨fun h=>?_,fun h n hn=>?_,fun h=>?_,fun h b kd a c hx=>?_,kR,kR,kR,by rw[Zts]; kernel_rfl⟩
 ·exact Zu.closed fits Hh (Zxi Hh) gl Ye9 rfl kR h
 ·rw[dn] at hn
  exact Zu.closed1 fits Hh (Zxi Hh) gl (us:=[.g (Jt 2 60 32 40)]) Yd9 rfl rfl kR h n hn
 ·exact Zu.closed fits Hh (Zxi Hh) gl Ye7 kR kR h
 ·have h1:=Z6f hx
  obtain⟨rfl,rfl⟩:=h1 rfl
  rw[Zmf 60 32 6 0 dM dM]
  exact Zu.closed fits Hh (Zxi Hh) gl Ye8 kR (by rw[Zts]; kernel_rfl) h
theorem Z4p {args:List W} {h h':Hq} {v:V} (e:Z4o args h=some (v,h')):Zb 47 args h v h':=by
 unfold Z4o at e
 cases hb:isG args with
 | false=>rw[hb] at e; cases e
 | true =>
  rw[hb] at e
  cases e
  unfold isG at hb
  split at hb
  ·rename_i a b c d
   simp only[aQ] at hb
   obtain⟨⟨⟨h1,h2⟩,h3⟩,h4⟩:=hb
   obtain rfl:=bQ h1
   obtain rfl:=bQ h2
   obtain rfl:=bQ h3
   obtain rfl:=bQ h4
   have c0:=Ya8 Hh fine2 (rgK Hh) Zfw Zls Zl8 Z2k (Z8h Hh) (by rw[Z3d]; exact Z2j) h
   rw[Z3d,len90] at c0
   exact c0
  ·cases hb
end
open Go.Ev
theorem sz24:ti24.size=1:=by rfl
theorem sz26:ti26.size=1:=by rfl
theorem ty28:K.types.get 28=some ti28:=kR
theorem sz28:ti28.size=4:=by rfl
theorem ag28:ti28.agg=true:=by rfl
theorem fo28_0:Zw K 28 0=some (0,ti23):=kR
theorem fo28_1:Zw K 28 1=some (1,ti24):=kR
theorem fo28_2:Zw K 28 2=some (2,ti25):=kR
theorem fo28_3:Zw K 28 3=some (3,ti26):=kR
theorem bu28 (ps:List (Nat × W)):Yq K 28 (some ps)=gW (Yh K 28 ps ti28.zero.cells):=kR
theorem ze28:ti28.zero=(.g ([.pnil,.pnil,.pnil,.pnil])):=by rfl
theorem ty58:K.types.get 58=some ti58:=kR
theorem sz58:ti58.size=1:=by rfl
theorem ag58:ti58.agg=false:=by rfl
theorem fo60_0:Zw K 60 0=some (0,ti57):=kR
theorem fo60_1:Zw K 60 1=some (4,ti5):=kR
theorem fo60_2:Zw K 60 2=some (5,ti58):=kR
theorem bu60 (ps:List (Nat × W)):Yq K 60 (some ps)=gW (Yh K 60 ps ti60.zero.cells):=kR
theorem ze60:ti60.zero=(.g ([.int .i64 0,.int .i64 0,.int .i64 0,.int .i64 0,.int .u8 0,.snil])):=by rfl
theorem fo203_0:Zw K 203 0=some (0,ti106):=kR
theorem fo203_3:Zw K 203 3=some (3,ti3):=kR
theorem bu203 (ps:List (Nat × W)):Yq K 203 (some ps)=gW (Yh K 203 ps ti203.zero.cells):=kR
theorem ze203:ti203.zero=(.g ([.snil,.snil,.int .i64 0,.int .i64 0])):=by rfl
theorem sz212:ti212.size=1:=by rfl
theorem sz215:ti215.size=1:=by rfl
theorem sz218:ti218.size=1:=by rfl
theorem fo221_0:Zw K 221 0=some (0,ti26):=kR
theorem bu221 (ps:List (Nat × W)):Yq K 221 (some ps)=gW (Yh K 221 ps ti221.zero.cells):=kR
theorem ze221:ti221.zero=(.g ([.pnil,.snil,.snil])):=by rfl
theorem sz222:ti222.size=1:=by rfl
theorem fo227_0:Zw K 227 0=some (0,ti40):=kR
theorem bu227 (ps:List (Nat × W)):Yq K 227 (some ps)=gW (Yh K 227 ps ti227.zero.cells):=kR
theorem ze227:ti227.zero=(.g ([.int .u32 0,.snil,.snil,.snil,.snil,.snil,.snil,.snil,.snil,.bool false,.int .i64 0,.int .i64 0,.snil])):=by rfl
theorem fo234_0:Zw K 234 0=some (0,ti57):=kR
theorem fo234_1:Zw K 234 1=some (4,ti5):=kR
theorem fo234_2:Zw K 234 2=some (5,ti218):=kR
theorem fo234_3:Zw K 234 3=some (6,ti212):=kR
theorem fo234_4:Zw K 234 4=some (7,ti215):=kR
theorem fo234_5:Zw K 234 5=some (8,ti222):=kR
theorem bu234 (ps:List (Nat × W)):Yq K 234 (some ps)=gW (Yh K 234 ps ti234.zero.cells):=kR
theorem ze234:ti234.zero=(.g ([.int .i64 0,.int .i64 0,.int .i64 0,.int .i64 0,.int .u8 0,.pnil,.pnil,.pnil,.pnil,.bool false,.int .u32 0,.snil,.snil,.snil,.snil,.snil,.snil,.bool false,.snil,.snil])):=by rfl
theorem fo311_0:Zw K 311 0=some (0,ti3):=kR
theorem fo311_2:Zw K 311 2=some (2,ti3):=kR
theorem bu311 (ps:List (Nat × W)):Yq K 311 (some ps)=gW (Yh K 311 ps ti311.zero.cells):=kR
theorem ze311:ti311.zero=(.g ([.int .i64 0,.snil,.int .i64 0])):=by rfl
theorem fo314_0:Zw K 314 0=some (0,ti57):=kR
theorem bu314 (ps:List (Nat × W)):Yq K 314 (some ps)=gW (Yh K 314 ps ti314.zero.cells):=kR
theorem ze314:ti314.zero=(.g ([.int .i64 0,.int .i64 0,.int .i64 0,.int .i64 0,.snil,.int .u32 0,.bool false])):=by rfl
attribute [go_sem] sz24 sz26 ty28 sz28 ag28 fo28_0 fo28_1 fo28_2 fo28_3 bu28 ze28 ty35 de35 ty58 sz58 ag58 fo60_0 fo60_1 fo60_2 bu60 ze60 fo203_0 fo203_3 bu203 ze203 sz212 sz215 sz218 fo221_0 bu221 ze221 sz222 fo227_0 bu227 ze227 fo234_0 fo234_1 fo234_2 fo234_3 fo234_4 fo234_5 bu234 ze234 fo311_0 fo311_2 bu311 ze311 fo314_0 bu314 ze314
theorem rs16:Tryz.f16.results.toList=[.cell 2 28,.tmp 3]:=rfl
theorem rs49:Tryz.f49.results.toList=[.tmp 2,.tmp 3]:=rfl
theorem rs51:Tryz.f51.results.toList=[.tmp 8,.tmp 9]:=rfl
theorem rs115:Tryz.f115.results.toList=[.tmp 2,.tmp 3]:=rfl
theorem rs116:Tryz.f116.results.toList=[.tmp 2,.tmp 3]:=rfl
attribute [go_sem] rs16 rs49 rs51 rs115 rs116
section
variable (Hh:Hearts K Tryz.prog)
include Hh
theorem Z9m (h:Hq):Zb 97 [.g [.int .i64 2,.int .i64 60,.int .i64 32,.int .i64 40]] h (.w (.c (.bool true))) h:=Zu.closed fits Hh Zo7 gl (n:=20000) kR rfl rfl h
theorem Z3l (h:Hq):Zb 114 [.g [.int .i64 2,.int .i64 60,.int .i64 32,.int .i64 40]] h (.w (.c (.int .i64 162))) h:=Zu.closed fits Hh Zo7 gl (n:=20000) kR rfl rfl h
theorem Yd4 {h:Hq} {n:Nat} {L:List (List C)} (hn:h.get n=some (.row 256 L false)) (nl:n<h.next) (Ll:L.length=162) (lf:Y3 K 106 (.c (.slice n 0 162 256))=true) :
  ∃ h' q m sz x,Zb 49 [.c (.slice n 0 162 256)] h (.tup [.c (.ptr q 0),.c (.int .i64 0)]) h'/\h.next<=q/\q<h'.next/\h'.get q=some (.row sz [x] false)/\read1 sz [x] 0=some (.slice m 0 162 256)/\∀ m,m<h.next->h'.get m=h.get m:=by
 have rm:E9 256 L 0 256 162=some L:=by rw[<-Ll]; exact Qa 256 L
 obtain⟨v,h',cc,q,m,sz,x,rfl,q1,q2,q3,q4,hk⟩:∃ v h',Zb 49 [.c (.slice n 0 162 256)] h v h'/\∃ q m sz x,v=.tup [.c (.ptr q 0),.c (.int .i64 0)]/\h.next<=q/\q<h'.next/\h'.get q=some (.row sz [x] false)/\read1 sz [x] 0=some (.slice m 0 162 256)/\∀ m,m<h.next->h'.get m=h.get m:=by
  rcases L with _|⟨x0,L⟩
  ·simp at Ll
  ·
   refine Yk Hh Tryz.f49 ?_
   iterate 10 (first|((first|apply gZ|apply gO fits Hh Za); · simp (maxSteps:=9^6) +decide (disch:=first|exact dZ|fail) only [go_sem,Zn,Zi,simprocAttr,lf,hn,rm,Ll,List.length_append,Nat.zero_add,Zt,Jn,Yx,Ox,Jv,Uf,Qc,Sb,Zaw,Qx,Ju,Rs,Uk,List.replicate_succ,List.replicate_zero,Nat.zero_mul]<;>rfl)|apply gS)
   refine⟨_,_,Zf,_,_,_,_,rfl,?_,?_,by first|exact O3 .. | (rw[U8 (by simp only[H.Zc,H.Yv]<;>omega)]),rfl,fun m hm=>by exact Np⟩
   ·first|omega|(simp only[H.Zc,H.Yv]<;>omega)
   ·first|omega|(simp only[H.Zc,H.Yv]<;>omega)
 exact⟨h',q,m,sz,x,cc,q1,q2,q3,q4,hk⟩
theorem Yd5 (h:Hq):∃ h' r,Zb 115 [.c (.int .i64 40)] h (.tup [.c (.ptr r 0),.c (.int .i64 0)]) h'/\h.next<=h'.next/\∀ m,m<h.next->h'.get m=h.get m:=by
 obtain⟨v,h',cc,r,rfl,n1,hk⟩:∃ v h',Zb 115 [.c (.int .i64 40)] h v h'/\∃ r,v=.tup [.c (.ptr r 0),.c (.int .i64 0)]/\h.next<=h'.next/\∀ m,m<h.next->h'.get m=h.get m:=by
  refine Yk Hh Tryz.f115 ?_
  iterate 10 (first|refine gZ Fh ?_|refine Zo Hh Za Fh ?_|apply gS)
  exact⟨_,_,Zf,_,rfl,(by first|omega|(simp only[H.Zc,H.Zd]<;>omega)),fun m hm=>by exact Np⟩
 exact⟨h',r,cc,n1,hk⟩
theorem Yd3 (h:Hq):∃ h' r,Zb 116 [.g [.int .i64 2,.int .i64 60,.int .i64 32,.int .i64 40]] h (.tup [.c (.ptr r 0),.c (.int .i64 0)]) h'/\h.next<=h'.next/\∀ m,m<h.next->h'.get m=h.get m:=by
 have cM:=fun h=>Z9m Hh h
 have rd4':Zn 4 [[.int .i64 2,.int .i64 60,.int .i64 32,.int .i64 40]] 0 4=some [.int .i64 2,.int .i64 60,.int .i64 32,.int .i64 40]:=rfl
 obtain⟨v,h',cc,r,rfl,n1,hk⟩:∃ v h',Zb 116 [.g [.int .i64 2,.int .i64 60,.int .i64 32,.int .i64 40]] h v h'/\∃ r,v=.tup [.c (.ptr r 0),.c (.int .i64 0)]/\h.next<=h'.next/\∀ m,m<h.next->h'.get m=h.get m:=by
  refine Yk Hh Tryz.f116 ?_
  have Jf:=@rd4'
  iterate 4 (first|refine Zo Hh Za Y9 ?_|apply gS)
  iterate 6 (first|refine gZ Y9 ?_|refine Zo Hh (Y4 Za cM) Y9 ?_|apply gS)
  exact⟨_,_,Yn,_,rfl,(by first|omega|(simp only[H.Zc,H.Zd]<;>omega)),fun m hm=>by exact Np⟩
 exact⟨h',r,cc,n1,hk⟩
theorem Ye5 {h:Hq} {q m sz:Nat} {x:List C} (hq:h.get q=some (.row sz [x] false)) (hx:read1 sz [x] 0=some (.slice m 0 162 256)) (ql:q<h.next) {md:Int} (m1:1<=md) (m3:md<=3) (lf:Y3 K 106 (.c (.slice m 0 162 256))=true) :
  ∃ h' s,Zb 51 [.c (.ptr q 0),.g [.int .i64 2,.int .i64 60,.int .i64 32,.int .i64 40],.c (.int .u8 md),.c (.int .u32 1)] h (.tup [.c (.ptr s 0),.c (.int .i64 0)]) h'/\h.next<=h'.next/\∀ m,m<h.next->h'.get m=h.get m:=by
 have cM:=fun h=>Z9m Hh h
 have cB:=fun h=>Z3l Hh h
 have hx':x[0]? = some (.slice m 0 162 256):=by
  unfold read1 at hx
  rw[Nat.zero_div,Nat.zero_mod,List.getElem?_cons_zero] at hx
  exact hx
 have rd4':Zn 4 [[.int .i64 2,.int .i64 60,.int .i64 32,.int .i64 40]] 0 4=some [.int .i64 2,.int .i64 60,.int .i64 32,.int .i64 40]:=rfl
 obtain⟨v,h',cc,s,rfl,n1,hk⟩:∃ v h',Zb 51 [.c (.ptr q 0),.g [.int .i64 2,.int .i64 60,.int .i64 32,.int .i64 40],.c (.int .u8 md),.c (.int .u32 1)] h v h'/\∃ s,v=.tup [.c (.ptr s 0),.c (.int .i64 0)]/\h.next<=h'.next/\∀ m,m<h.next->h'.get m=h.get m:=by
  refine Yk Hh Tryz.f51 ?_
  have Jf:=Nk @rd4' @hq @hx' @lf @Nat.zero_div @Nat.zero_mod
  iterate 4 (first|refine Zo Hh Za Gi ?_|apply gS)
  iterate 5 (first|refine gZ Gi ?_|refine Zo Hh (Y4 Za cM) Gi ?_|apply gS)
  iterate 4 (first|refine gZ Gi ?_|refine F7 Hh (Y4 Za cB) Zh1 ?_|apply gS)
  refine Jo fun hA eA=>?_
  have nA:hA.next=h.next+1:=nxQ eA
  have kA:∀ m,m<h.next->hA.get m=h.get m:=fun m hm=>by rw[eA]; exact Np
  have aA:hA.get h.next=some (.row 4 [[.int .i64 2,.int .i64 60,.int .i64 32,.int .i64 40]] false):=by rw[eA]; exact Yn
  clear eA
  obtain⟨hB,r1,c5,nB,kB⟩:=Yd5 Hh hA
  have aB:=(kB h.next oM).trans aA
  obtain⟨hC,r2,c6,nC,kC⟩:=Yd3 Hh hB
  have aC:=(kC h.next oM).trans aB
  have Jf:=J6 Jf @aA @aB @aC
  iterate 2 (first|refine Zo Hh (Zj Za c5) Gi ?_|apply gS)
  iterate 4 (first|refine Zo Hh (Zj Za c6) Gi ?_|apply gS)
  exact⟨_,_,Yn,_,rfl,(by first|omega|(simp only[H.Zc,H.Zd]<;>omega)),fun m hm=>by refine Eq.trans ?_ ((kC m oM).trans ((kB m oM).trans (kA m hm))); exact Np⟩
 exact⟨h',s,cc,n1,hk⟩
end
section
variable (Hh:Hearts K Tryz.prog)
include Hh
theorem Z82 {md:Int} (m1:1<=md) (m3:md<=3) {h:Hq} (hst:h.get 0=some Ot) (l0:0<h.next) (lf:∀ p,Y3 K 106 (.c (.slice p 0 162 256))=true) (lt:Y3 K 58 (.c .snil)=true) :
  ∃ h' n d d1 d2 r q,Zb 16 [.g [.int .i64 2,.int .i64 60,.int .i64 32,.int .i64 40,.int .u8 md,.snil]] h (.tup [.g [.ptr (n+13) 0,.ptr r 0,.ptr d 0,.ptr q 0],.c (.bool true)]) h'/\ClD n d d1 d2 2 60 32 40 md Zal h'/\h.next<=n/\∀ m,m<h.next->h'.get m=h.get m:=by
 have cM:∀ h,Zb 47 [.g [.int .i64 2,.int .i64 60,.int .i64 32,.int .i64 40]] h (.tup [.c (.slice h.next 0 162 256),.c (.int .i64 0)]) (h.new (.row 256 Zal false)):=fun h=>Z4p Hh rfl
 have r64:Zn 6 [[.int .i64 2,.int .i64 60,.int .i64 32,.int .i64 40,.int .u8 md,.snil]] 0 4=some [.int .i64 2,.int .i64 60,.int .i64 32,.int .i64 40]:=rfl
 have r44:∀ a b c d:C,Zn 4 [[a,b,c,d]] 0 4=some [a,b,c,d]:=fun _ _ _ _=>rfl
 have il:Zal.length=162:=kR
 have im:imB Zal=true:=kR
 have f4:Yw 2 60 32 40=true:=kR
 obtain⟨I,hI⟩:=xzE (Zal)
 simp only[hI] at cM il im ⊢
 obtain⟨v,h',cc,n,d,d1,d2,r,q,rfl,M,nn,hk⟩:∃ v h',Zb 16 [.g [.int .i64 2,.int .i64 60,.int .i64 32,.int .i64 40,.int .u8 md,.snil]] h v h'/\∃ n d d1 d2 r q,v=.tup [.g [.ptr (n+13) 0,.ptr r 0,.ptr d 0,.ptr q 0],.c (.bool true)]/\ClD n d d1 d2 2 60 32 40 md I h'/\h.next<=n/\∀ m,m<h.next->h'.get m=h.get m:=by
  refine Yk Hh Tryz.f16 ?_
  have Jf:=Nk @r64 @il @im @f4 @lf @lt
  iterate 3 (first|refine Zo Hh Za Gi ?_|apply gS)
  iterate 17 (first|refine gZ Gi ?_|refine Zo Hh (Y4 Za cM) Gi ?_|apply gS)
  iterate 2 (first|refine Zo Hh (EY Za (Zz0 Hh)) Gi ?_|apply gS)
  refine Jo fun hA eA=>?_
  have nA:hA.next=h.next+6:=nxQ eA
  have kA:∀ m,m<h.next->hA.get m=h.get m:=kQ eA
  have b0:hA.get h.next=some (.row 6 [[.int .i64 2,.int .i64 60,.int .i64 32,.int .i64 40,.int .u8 md,.snil]] false):=by rw[eA]; exact Yn
  obtain⟨w,wl,b1⟩:∃ w:List C,w.length=4/\hA.get (h.next+1)=some (.row 4 [w] false):=⟨_,rfl,by rw[eA]; exact Yn⟩
  have b2:hA.get (h.next+2)=some (.row 256 I false):=by rw[eA]; exact Yn
  have b4:hA.get (h.next+4)=some (.row 256 I false):=by rw[eA]; exact Zr
  have b5:hA.get (h.next+5)=some (.row 6 [dkL ⟨h.next+3,h.next+4,162,.snil,0,0⟩] false):=by rw[eA]; exact Zr
  have sA:=(kA 0 l0).trans hst
  clear eA
  obtain⟨hB,q,m,sz,x,c11,q1,q2,q3,q4,kB⟩:=Yd4 Hh b2 oM il (lf _)
  have B0:=(kB h.next oM).trans b0
  have B4:=(kB _ oM).trans b4
  have B5:=(kB _ oM).trans b5
  have sB:=(kB 0 oM).trans sA
  obtain⟨N,hN⟩:∃ N,hB.next=N+5:=⟨hB.next - 5,oM⟩
  iterate 7 (first|((first|apply gZ|apply gO fits Hh (Zj Za c11)); · simp (maxSteps:=9^6) +decide (disch:=first|exact dZ|fail) only [go_sem,Zi,simprocAttr,Z7,r64,il,im,f4,lf,lt,b0,B0,B5,Yx,Zt,Jn,read1]<;>rfl)|apply gS)
  iterate 2 (first|(apply gO fits Hh (EY Za (Z47 Hh)); · simp (maxSteps:=9^6) +decide (disch:=first|exact dZ|fail) only [go_sem,Zi,simprocAttr,r64,il,im,f4,lf,lt,b0,B0,B5,Yx,Zt,Jn,read1]<;>rfl)|apply gS)
  refine Jo fun hC eC=>?_
  have ND:=Yew (h:=hB) oM sB (d:=h.next+5) (d1:=h.next+3) (d2:=h.next+4) (a:=2) (b:=60) (c:=32) (e:=40) (L:=I) oM oM B5 B4 md
  have eC':hC=Qn hB (h.next+5) 2 60 32 40 md 1:=eC
  rw[<-eC',show hB.next - 5=N by omega] at ND
  obtain⟨MC,nC,kC⟩:=ND
  clear eC eC'
  have C0:=(kC h.next oM).trans B0
  have Cq:=(kC q q2).trans q3
  obtain⟨hD,s,c15,nD,kD⟩:=Ye5 Hh Cq q4 oM m1 m3 (lf _)
  have D1:=(kD (h.next+1) oM).trans ((kC _ oM).trans ((kB _ oM).trans b1))
  have nB6:h.next+6<=hD.next:=oM
  iterate 4 (first|(apply gO fits Hh (Zj Za c15); · simp (maxSteps:=9^6) +decide (disch:=first|exact dZ|fail) only [go_sem,Zi,simprocAttr,Z7,r64,il,im,f4,lf,lt,b0,B0,B5,C0,D1,wl,r44,Yx,Zt,Jn,read1]<;>rfl)|apply gS)
  refine⟨_,_,(by have Jf:=@r44; exact Zr),N,h.next+5,h.next+3,h.next+4,s,q,?_,(MC.keep nD fun m hm=>kD m (by have:=MC.nx; omega)).but (w:=h.next+1) ?_ ⟨oM,oM,oM,oM⟩ (fun m hm hne=>?_),oM,fun m hm=>?_⟩
  ·rw[hN]
  ·first|omega|(simp only[H.Zd,H.Zc]<;>omega)
  ·exact Ym
  ·refine Eq.trans ?_ ((kD m oM).trans ((kC m oM).trans ((kB m oM).trans (kA m hm)))); exact Ym
 exact⟨h',n,d,d1,d2,r,q,cc,M,nn,hk⟩
end
def V4 (z:Nat):Lq:=unN ((Zal[z]?).getD [])
theorem Z90:∀ z,z<162->(V4 z).length=256/\Zal[z]? = some (pgL (V4 z)):=by
 have il:Zal.length=162:=kR
 have ib:Zal.all (fun x=>Nat.beq x.length 256&&Zqe x)=true:=kR
 intro z hz
 have hx:Zal[z]? = some Zal[z]:=lG oM
 have:=List.all_eq_true.1 ib _ (List.getElem_mem (by omega:z<Zal.length))
 rw[aQ] at this
 obtain⟨ns,e,nl⟩:=Zg9 this.2
 have xl:=bQ this.1
 have hx':Zal[z]? = some (pgL ns):=hx.trans (congrArg some e)
 have v:V4 z=ns.map (· % 256):=by unfold V4; rw[hx',Option.getD_some,Gp]
 rw[v]
 refine⟨by rw[List.length_map,nl]; exact xl,?_⟩
 rw[hx',Zt2]
open Go.Ev
theorem Qk:Yw 2 60 32 40=true:=kR
def gT (t:Nat):Nat->Bool:=fun j=>decide (j<t) || decide (32<=j)
structure ISt (V:Nat->Lq) (t:Nat):Prop where
 bm:V (2+40+1)=Zcm (gT t)
 old:∀ i:Nat,t+1<=i->i<=4->gI 2 60 32 40 V (i:Int)=(ino0,0)
theorem Z8y:∀ i:Nat,2<=i->i<=4->gI 2 60 32 40 V4 (i:Int)=(ino0,0)
 | 0,h,_=>by omega
 | 1,h,_=>by omega
 | 2,_,_=>kR
 | 3,_,_=>kR
 | 4,_,_=>kR
 | n+5,_,h=>by omega
theorem ISt.init:ISt V4 1:=⟨kR,Z8y⟩
theorem ISt.keep {V V':Nat->Lq} {t:Nat} (o:ISt V t) (hb:V' (2+40+1)=V (2+40+1)) (hg:∀ i:Nat,t+1<=i->i<=4->gI 2 60 32 40 V' (i:Int)=gI 2 60 32 40 V (i:Int)):ISt V' t:=⟨hb.trans o.bm,fun i h1 h2=>(hg i h1 h2).trans (o.old i h1 h2)⟩
theorem Yac {t:Nat} (h:t<4):Y1 60 32 40 t=2+40+2:=by
 unfold Y1
 rw[Nat.div_eq_of_lt (show t<32 by omega),Nat.mod_eq_of_lt (show t<32 by omega)]
 omega
theorem Z0f {a b c m i1 w1 i0 w0:Nat} {iw:Nat->Nat × Nat} (ha:1<=a) (e0:iw 0=(i0,w0)):(DG a b c iw m).set 0 (fF b c - min (fF b c) (m - 0 * fF b c),i1,w1)=DG a b c (upJ iw 0 (i1,w1)) m:=by
 apply List.ext_getElem?
 intro i
 rcases Nat.lt_or_ge i a with q|q
 ·rcases Nat.eq_zero_or_pos i with rfl|p
  ·rw[List.getElem?_set_self (by rw[R6]; exact q),Zga q,Jq]
  ·rw[lS oM,Zga q,Zga q,Gc oM]
 ·rw[lN (by rw[List.length_set,R6]; exact q),lN (by rw[R6]; exact q)]
section
variable (Hh:Hearts K Tryz.prog)
include Hh
variable {n q:Nat} {cr:Cr} [Opn cr] {md:Int} {S:Lq} {iw:Nat->Nat × Nat} {V:Nat->Lq} {m:Nat} {J:Lq} {bl:Nat->Nat} {N:Nat->List UInt8->Nat} {h:Hq} {t i0 w0:Nat}
theorem Yc4 (M:HE n q 2 60 32 40 cr md S [] V h) (T:TSt 2 60 32 40 iw V m J bl N) (o:ISt V t) (t1:1<=t) (t4:t<4) (nJ:t ∉ J) (e0:iw 0=(i0,w0)) (io:Zb0 32 iw) (i1:1<=i0) (iw':w0+i0<=32) {kq:Nat} (kk:kq=1\/kq=2) {near:Nat} (nr:1<=near/\near<=32) (s1:1∈S) (s3:2+40+1∈S) (s2:2+40+2∈S) :
  ∃ h' V',Zb 22 [.c (.ptr (n+13) 0),.c (.int .u8 (kq:Int)),.c (.int .i64 (near:Int))] h (.tup [.c (.int .i64 ((t+1:Nat):Int)),.c (.int .i64 0)]) h'/\HE n q 2 60 32 40 cr md S [] V' h'/\Kp n q h h'/\TSt 2 60 32 40 (upJ iw 0 (i0 - 1,Qt (kq:Int) w0)) V' m J bl N/\ISt V' (t+1)/\gI 2 60 32 40 V' ((t+1:Nat):Int)=(Rh kq 1 1 0 (fun _=>0) 0,0)/\(∀ i:Nat,i≠t->gI 2 60 32 40 V' ((i+1:Nat):Int)=gI 2 60 32 40 V ((i+1:Nat):Int))/\Zb0 32 (upJ iw 0 (i0 - 1,Qt (kq:Int) w0))/\∀ w,w≠1->w≠2+40+1->w≠2+40+2->V' w=V w:=by
 have f:=Qk
 have F:=Z5 f
 obtain⟨A1,A2,A3⟩:=T.al
 have bt:=Yac t4
 have dn:Qt (kq:Int) w0<=w0+1:=by
  unfold Qt; split<;>omega
 have io':Zb0 32 (upJ iw 0 (i0 - 1,Qt (kq:Int) w0)):=fun k=>by
  by_cases e:k=0
  ·subst e; rw[Jq]; show Qt (kq:Int) w0+(i0 - 1)<=32; omega
  ·rw[Gc e]; exact io k
 have may:=Zna (a:=2) (b:=60) io' (m:=m)
 have kI:(kq:Int)=1\/(kq:Int)=2:=by rcases kk with rfl|rfl; exact .inl rfl; exact .inr rfl
 have G:GrpH 2 60 32 40 S [] V (DG 2 60 32 iw m) (kq:Int) (gT t) 0 t (fF 60 32 - min (fF 60 32) (m - 0 * fF 60 32)) i0 w0 0 ino0:=by
  refine⟨oM,fun i hi=>?_,?_,oM,kI,?_,A2,?_,rfl,rfl,oM,?_,i1,oM,oM,?_,?_,⟨s1,by simp⟩,?_⟩
  ·unfold gT; rw[decide_eq_true hi]; rfl
  ·unfold gT; rw[decide_eq_false oM,decide_eq_false oM]; rfl
  ·rw[Nat.zero_mul,Nat.add_zero]; exact o.bm
  ·rw[Nat.zero_mul,Nat.zero_add]; exact o.old (t+1) oM oM
  ·rw[Zga oM,e0]
  ·rw[Z0f oM e0]; exact may
  ·rw[Nat.zero_mul,Nat.zero_add,bt]; exact⟨s2,by simp⟩
  ·rw[Nat.zero_mul,Nat.add_zero]; exact⟨s3,by simp⟩
 obtain⟨h',cc,M',nn,kp⟩:=Z8o Hh f M (near:=(near:Int)) (k:=0) (by
  unfold Zgn
  rw[if_pos ⟨oM,oM⟩,Int.toNat_natCast]
  exact Nat.div_eq_of_lt oM) G
 have l1:(V (Y1 60 32 40 t)).length=256:=by
  rw[bt]
  exact M.len (Dc F oM oM) oM
 have hV:Zr8 60 32 40 V (DG 2 60 32 iw m) (kq:Int) (gT t) 0 t (fF 60 32 - min (fF 60 32) (m - 0 * fF 60 32)) i0 w0 0=Gf (Gf (Gf V (2+40+1) (Zcm (Tp (gT t) t))) 1 (Ze2 (DG 2 60 32 (upJ iw 0 (i0 - 1,Qt (kq:Int) w0)) m))) (Y1 60 32 40 t) (Ee (V (Y1 60 32 40 t)) (F6 32 t) kq 1 1 0 [0,0,0,0,0,0,0,0,0,0,0] 0):=by
  rw[<-Z0f (i1:=i0 - 1) (w1:=Qt (kq:Int) w0) oM e0]
  unfold Zr8
  rw[Nat.zero_mul 32,Nat.zero_add t]
  rfl
 rw[hV] at M'
 have n1:Y1 60 32 40 t≠1:=oM
 have n2:Y1 60 32 40 t≠2+40+1:=oM
 obtain⟨W,hW⟩:=xzE (Gf (Gf V (2+40+1) (Zcm (Tp (gT t) t))) 1 (Ze2 (DG 2 60 32 (upJ iw 0 (i0 - 1,Qt (kq:Int) w0)) m)))
 have Wb:W (Y1 60 32 40 t)=V (Y1 60 32 40 t):=by rw[<-hW,Jd n1,Jd n2]
 rw[hW,<-Wb] at M'
 have Wl:(W (Y1 60 32 40 t)).length=256:=by rw[Wb]; exact l1
 have Wg:∀ i,gI 2 60 32 40 W i=gI 2 60 32 40 V i:=fun i=>by
  rw[<-hW,Zbg (Zqd F (.inl oM)),Zbg (Zqd F (.inr ⟨0,.inl oM⟩))]
 rw[Nat.zero_mul,Nat.zero_add] at cc
 have gN:∀ i:Nat,i≠t->gI 2 60 32 40 (Gf W (Y1 60 32 40 t) (Ee (W (Y1 60 32 40 t)) (F6 32 t) kq 1 1 0 [0,0,0,0,0,0,0,0,0,0,0] 0)) ((i+1:Nat):Int)=gI 2 60 32 40 V ((i+1:Nat):Int):=fun i hi=>by
  rw[Zn5 F Wl hi rfl,Wg]
 obtain⟨gd,td⟩:=Zlr f (D:=DG 2 60 32 (upJ iw 0 (i0 - 1,Qt (kq:Int) w0)) m) R6 may
 have oth:∀ w,w≠1->w≠2+40+1->w≠2+40+2->Gf W (Y1 60 32 40 t) (Ee (W (Y1 60 32 40 t)) (F6 32 t) kq 1 1 0 [0,0,0,0,0,0,0,0,0,0,0] 0) w=V w:=fun w w1 w2 w3=>by
  rw[Jd (by rw[bt]; exact w3),<-hW,Jd w1,Jd w2]
 refine⟨h',_,cc,M',⟨nn,kp⟩,T.other ⟨fun k hk=>?_,⟨?_,?_,R6⟩,may⟩ (fun j hj=>gN j fun e=>nJ (e ▸ hj)) (fun k _=>?_),⟨?_,fun i h1 h2=>?_⟩,?_,gN,io',oth⟩
 ·rw[oth _ oM oM oM]
  exact A1 k hk
 ·rw[Jd (Ne.symm n1),<-hW,Bc]; exact gd
 ·rw[Jd (Ne.symm n1),<-hW,Bc]; exact td
 ·exact oth _ (fun w=>by unfold Fj at w; omega) (fun w=>Vx (m:=k) f (k:=0) (r:=1) oM oM) (fun w=>Vx (m:=k) f (k:=0) (r:=2) oM oM)
 ·rw[Jd (Ne.symm n2),<-hW,Jd oM,Bc]
  refine congrArg Zcm (funext fun j=>?_)
  unfold Tp gT
  rw[Bool.eq_iff_iff]
  simp only[Bool.or_eq_true,decide_eq_true_eq]
  omega
 ·obtain⟨k,rfl⟩:∃ k,i=k+1:=⟨i - 1,oM⟩
  rw[gN k oM]
  exact o.old _ oM h2
 ·rcases kk with rfl|rfl
  ·rw[Zhk (j:=t) oM Wl oM oM oM oM (fun v hv=>by simp at hv; omega) oM kR]
   rfl
  ·rw[Zhk (j:=t) oM Wl oM oM oM oM (fun v hv=>by simp at hv; omega) oM kR]
   rfl
end
open Go.Ev
def x4:Kn:=fun f args h=>bif Nat.beq f 317 then Z84 args h else bif Nat.beq f 85 then Zxl args h else none
def Vs (z:Nat):Lq:=((fun ns=>Jr ns 252 (Qs ns)) (Jr (Om (Om (Om (Om (Om (Om (Jr (List.replicate 256 0) 0 827216465) 4 1) 6 256) 8 2) 10 60) 12 32) 14 40) 16 z)).map (· % 256)
theorem Zj5 (z:Nat):(Vs z).length=256:=by simp only[Vs,List.length_map,Yi,Y0,List.length_replicate]
def Qz (z:Nat):List C:=[.int .i64 2,.int .i64 60,.int .i64 32,.int .i64 40,.int .u32 (z:Int)]
section
variable (Hh:Hearts K Tryz.prog)
include Hh
theorem Z9w:Zcj K Tryz.prog x4:=by
 intro f args h v h' e
 unfold x4 at e
 cases h2:Nat.beq f 317 with
 | true =>
  rw[h2] at e
  obtain rfl:=bQ h2
  exact Z85 Hh e
 | false =>
  rw[h2] at e
  cases h3:Nat.beq f 85 with
  | true =>
   rw[h3] at e
   obtain rfl:=bQ h3
   exact Z5j Hh e
  | false=>rw[h3] at e; cases e
theorem Rw {z:Nat} (e:Zj0 (evX K x4 5000 (.call 275 [.g (pgL (Vs z))] Su))=some (.tup [.g (Qz z),.c (.int .i64 0)])) {h:Hq} (hst:h.get 0=some Ot):Zb 275 [.g (pgL (Vs z))] h (.tup [.g (Qz z),.c (.int .i64 0)]) h:=by
 obtain⟨h1,e1⟩:=Zbr e
 have c0:=(Er fits Hh (Z9w Hh) 5000).call 275 _ _ _ _ e1
 exact Zu.Zwb gl c0 kR (by show ((pgL (Vs z)).all C.flat&&true)=true; rw[Wq]; rfl) rfl h hst
theorem Lx {z:Nat} (e:Zj0 (evX K x4 5000 (.call 229 [.g (Qz z)] Su))=some (.tup [.g (pgL (Vs z)),.c (.int .i64 0)])) {h:Hq} (hst:h.get 0=some Ot):Zb 229 [.g (Qz z)] h (.tup [.g (pgL (Vs z)),.c (.int .i64 0)]) h:=by
 obtain⟨h1,e1⟩:=Zbr e
 have c0:=(Er fits Hh (Z9w Hh) 5000).call 229 _ _ _ _ e1
 exact Zu.Zwb gl c0 kR rfl (by show ((pgL (Vs z)).all C.flat&&true)=true; rw[Wq]; rfl) h hst
theorem Z3z {z:Nat} (hz:z<9) {h:Hq} (hst:h.get 0=some Ot):Zb 275 [.g (pgL (Vs z))] h (.tup [.g (Qz z),.c (.int .i64 0)]) h:=by
 match z,hz with
 | 0,_=>exact Rw Hh kR hst
 | 1,_=>exact Rw Hh kR hst
 | 2,_=>exact Rw Hh kR hst
 | 3,_=>exact Rw Hh kR hst
 | 4,_=>exact Rw Hh kR hst
 | 5,_=>exact Rw Hh kR hst
 | 6,_=>exact Rw Hh kR hst
 | 7,_=>exact Rw Hh kR hst
 | 8,_=>exact Rw Hh kR hst
 | n+9,h=>exact absurd h oM
theorem Zzq {z:Nat} (hz:z<9) {h:Hq} (hst:h.get 0=some Ot):Zb 229 [.g (Qz z)] h (.tup [.g (pgL (Vs z)),.c (.int .i64 0)]) h:=by
 match z,hz with
 | 0,_=>exact Lx Hh kR hst
 | 1,_=>exact Lx Hh kR hst
 | 2,_=>exact Lx Hh kR hst
 | 3,_=>exact Lx Hh kR hst
 | 4,_=>exact Lx Hh kR hst
 | 5,_=>exact Lx Hh kR hst
 | 6,_=>exact Lx Hh kR hst
 | 7,_=>exact Lx Hh kR hst
 | 8,_=>exact Lx Hh kR hst
 | n+9,h=>exact absurd h oM
end
open Go.Ev
def ltr (k:Nat):List UInt8:=[97,UInt8.ofNat (97+k)]
def first5:List UInt8:=[102,105,114,115,116]
def Zkz:List (List UInt8):=first5 :: (List.range 12).map ltr
theorem Zhv:∀ s∈Zkz,Xe s=true:=List.all_eq_true.1 (by kernel_rfl:(Zkz.all fun s=>Xe s)=true)
def chT:Lq:=[0,1,42,43,44,52,53,54]
theorem Yag:∀ k∈chT,k<4096:=by decide
theorem Z1b (m:Nat) (h:m<50):Fj 60 32 40 m=52+m:=by
 show 2+40+m / 50 * 60+(2+8+m % 50)=_
 omega
theorem Z1d:∀ m,m<3->Fj 60 32 40 m∈chT/\2+40+m / fF 60 32 * 60∈chT:=fun m hm=>by
 rw[Z1b m oM]
 have:m / fF 60 32=0:=Nat.div_eq_of_lt (show m<50 by omega)
 rw[this]
 match m,hm with
 | 0,_=>exact⟨by decide,by decide⟩
 | 1,_=>exact⟨by decide,by decide⟩
 | 2,_=>exact⟨by decide,by decide⟩
def Bz (l:Nat):List C:=Rh 1 l 1 0 (fun _=>0) 0
theorem Ydv {l:Nat} (h:l<=1000):Zg1 ((1:Nat):Int) (l:Nat) ((0:Nat):Int) ((0:Nat):Int) ((0:Nat):Int) ((0:Nat):Int) ((0:Nat):Int) ((0:Nat):Int) ((0:Nat):Int) ((0:Nat):Int) ((0:Nat):Int) ((0:Nat):Int) ((0:Nat):Int) ((0:Nat):Int) ((0:Nat):Int)=true:=by
 show Lm (l:Int) 0=true
 unfold Lm
 rw[decide_eq_true (show (0:Int)<=(l:Int) by omega),decide_eq_true (show (l:Int)<=1000 by omega)]
 rfl
structure TLs (iw:Nat->Nat × Nat) (V:Nat->Lq) (N:List UInt8->Nat) (l:Nat):Prop where
 ex:∃ m bl NN,TSt 2 60 32 40 iw V m [0] bl NN/\NN 0=N/\m=bl 0/\bl 0<=2
 fi:gI 2 60 32 40 V 2=(Bz l,0)
 su:V 0=Vs 0
 nm:∀ s,N s≠0->N s=2/\s∈Zkz
section
variable (Hh:Hearts K Tryz.prog)
include Hh
variable {n q:Nat} {cr:Cr} {md:Int} {iw:Nat->Nat × Nat} {V:Nat->Lq} {N:List UInt8->Nat} {h:Hq} {l:Nat} {s:List UInt8}
omit Hh in
theorem TLs.leads (Hh:Hearts K Tryz.prog) (m0:md≠0) {S T':Lq} (T:TLs iw V N l) (hs:s∈Zkz):R8 n q 2 60 32 40 cr md S T' V 1 s (N s) (if N s=0 then 301 else 0):=by
 obtain⟨m,bl,NN,t,rfl,_⟩:=T.ex
 exact t.leads Hh Qk m0 (List.mem_singleton.2 rfl) (Zhv s hs)
variable [Opn cr]
theorem TLs.put (M:HE n q 2 60 32 40 cr md chT [] V h) (T:TLs iw V N l) {l':Nat} (hl:l'<=1000) :
  ∃ h' V',Zb 27 [.c (.ptr (n+13) 0),.c (.int .i64 2),.g (Bz l')] h (.w (.c (.int .i64 0))) h'/\HE n q 2 60 32 40 cr md chT [] V' h'/\TLs iw V' N l'/\Kp n q h h':=by
 have f:=Qk
 have F:=Z5 f
 have b1:Y1 60 32 40 1=44:=Yac oM
 obtain⟨h',cc,M',kp⟩:=Z9i Hh f M (j:=1) oM (by rw[b1]; decide) (by simp) (k:=1) (l:=l') (g:=1) (s:=0) (p0:=0) (p1:=0) (p2:=0) (p3:=0) (p4:=0) (p5:=0) (p6:=0) (p7:=0) (p8:=0) (p9:=0) (p10:=0) (nx:=0) oM oM oM oM (fun v hv=>by simp at hv; omega) oM (Ydv hl)
 have sl:(V (Y1 60 32 40 1)).length=256:=M.len (by rw[b1]; kernel_rfl) (by rw[b1]; omega)
 obtain⟨m,bl,NN,t,e,c1,c2⟩:=T.ex
 have AA:=Z93 Hh (n:=n) (q:=q) (cr:=cr) (md:=md) (S:=chT) (cap:=3) f (iw:=iw0 32) (Zog oM) dM dM Z1d
 refine⟨h',_,cc,M',⟨⟨m,bl,NN,t.other ⟨fun k hk=>?_,⟨?_,?_,t.al.2.2.2⟩,t.al.3⟩ (fun j hj=>?_) (fun k _=>?_),e,c1,c2⟩,?_,?_,T.nm⟩,kp⟩
 ·rw[Jd (by rw[b1]; omega)]; exact t.al.1 k hk
 ·rw[Jd (by rw[b1]; omega)]; exact t.al.2.1
 ·rw[Jd (by rw[b1]; omega)]; exact t.al.2.2.1
 ·obtain rfl:=List.mem_singleton.1 hj
  exact Zn5 F sl oM rfl
 ·exact Jd fun w=>Zqb f 1 w.symm
 ·exact Zhk (j:=1) oM sl oM oM oM oM (fun v hv=>by simp at hv; omega) oM (Ydv hl)
 ·rw[Jd (by rw[b1]; omega)]; exact T.su
theorem TLs.add (m0:md≠0) (io:Zb0 32 iw) (M:HE n q 2 60 32 40 cr md chT [] V h) (T:TLs iw V N l) (hs:s∈Zkz) (s0:N s=0) :
  ∃ h' V',Zb 23 [.c (.ptr (n+13) 0),.c (.int .i64 1),.c (.str s),.c (.int .i64 2)] h (.w (.c (.int .i64 0))) h'/\HE n q 2 60 32 40 cr md chT [] V' h'/\TLs iw V' (upN N s 2) l/\Kp n q h h':=by
 obtain⟨m,bl,NN,t,rfl,c1,c2⟩:=T.ex
 have b0:Y1 60 32 40 0=44:=Yac oM
 obtain⟨h',V',m',bl',cc,kp,M',t',e,g',o'⟩:=Yep Hh (cap:=3) (u:=2) (j:=0) Qk m0 io M t (List.mem_singleton.2 rfl) (Zhv s hs) s0 oM oM oM dM dM Z1d (by rw[b0]; decide) oM oM (by rw[Z1b m oM]; omega) (fun r hr=>(T.nm r hr).2) dM
 have gi:=g' 1 oM
 refine⟨h',V',cc,M',⟨⟨m',bl',_,t',Jq ..,?_⟩,gi.trans T.fi,?_,fun r hr=>?_⟩,kp⟩
 ·have a13:Zkz.length=13:=rfl
  rcases e with ⟨rfl,rfl⟩|⟨rfl,rfl,w⟩
  ·exact⟨c1,c2⟩
  ·rw[Jq]; omega
 ·refine (o' 0 (fun w=>?_) (fun k w=>?_) (by rw[b0]; omega)).trans T.su
  ·rcases w with w|⟨k,_,w⟩<;>omega
  ·unfold Fj at w; omega
 ·by_cases rs:r=s
  ·subst rs; exact⟨Xq ..,hs⟩
  ·rw[Zcy rs] at hr ⊢; exact T.nm r hr
theorem TLs.rem (m0:md≠0) (io:Zb0 32 iw) (M:HE n q 2 60 32 40 cr md chT [] V h) (T:TLs iw V N l) (s0:N s≠0) :
  ∃ h' V',Zb 29 [.c (.ptr (n+13) 0),.c (.int .i64 1),.c (.str s)] h (.w (.c (.int .i64 0))) h'/\HE n q 2 60 32 40 cr md chT [] V' h'/\TLs iw V' (upN N s 0) l/\Kp n q h h':=by
 obtain⟨m,bl,NN,t,rfl,c1,c2⟩:=T.ex
 obtain⟨h',V',cc,kp,M',t',g',o'⟩:=Yeq Hh (cap:=3) (j:=0) Qk m0 io M t (List.mem_singleton.2 rfl) (Zhv s (T.nm s s0).2) s0 dM dM Z1d oM
 refine⟨h',V',cc,M',⟨⟨m,bl,_,t',Jq ..,c1,c2⟩,(g' 1).trans T.fi,?_,fun r hr=>?_⟩,kp⟩
 ·exact (o' 0 fun k w=>by unfold Fj at w; omega).trans T.su
 ·by_cases rs:r=s
  ·subst rs; rw[Xq] at hr; exact absurd rfl hr
  ·rw[Zcy rs] at hr ⊢; exact T.nm r hr
end
def wo (l:Lq) (i:Nat):Lq:=l.filter fun x=>decide (x≠i)
open Go.Ev
attribute [go_sem] ty191 sz191 ag191 fo191_0 fo191_1 ze191
theorem rs228:Tryz.f228.results.toList=[.cell 2 191,.tmp 3]:=rfl
theorem rs157:Tryz.f157.results.toList=[.tmp 4]:=rfl
theorem rs156:Tryz.f156.results.toList=[.tmp 2,.tmp 3]:=rfl
attribute [go_sem] rs228 rs157 rs156
theorem rs227:Tryz.f227.results.toList=[.tmp 2]:=rfl
theorem rs155:Tryz.f155.results.toList=[.tmp 2]:=rfl
attribute [go_sem] rs227 rs155
def Zva:Kn1:=fun args h=>match args with
 | [.c (.ptr s 0)]=>(Gn h s).bind fun S=>(Dz h S.gd).bind fun G=>some (.w (.c (.bool (G.md != 0))),h)
 | _=>none
def Zvb:Kn1:=fun args h=>match args with
 | [.c (.ptr s 0)]=>(Gn h s).bind fun S=>(Dz h S.gd).bind fun G=>(Oe h S.tx).bind fun X=>Y5 (X.op&&(G.md != 0)) (some (.w (.c (.int .i64 0)),h))
 | _=>none
attribute [go_sem] Zva Zvb
theorem ours0:Bb 2 60 32 40 ((0:Nat):Int)=true:=kR
theorem fine4:Yw 2 60 32 40=true:=kR
section
variable (Hh:Hearts K Tryz.prog)
include Hh
theorem Zm3 {args:List W} {h h':Hq} {v:V} (e:Zva args h=some (v,h')):Zb 227 args h v h':=by
 unfold Zva at e
 split at e
 ·rename_i s
  obtain⟨S,hs,e⟩:=Zk e
  have hs:=Y2 hs
  obtain⟨G,hg,e⟩:=Zk e
  obtain⟨hg,fb⟩:=Jj hg
  cases e
  refine fnG Hh Tryz.f227 ?_
  repeat (first|apply Z6|apply Yc|((first|apply gZ|apply gO fits Hh (EY Za (Zbx Hh))); · simp (maxSteps:=9^6) +decide (disch:=first|exact dZ|fail) only [go_sem,Zn,Zi,simprocAttr,hs,hg,gdL,fb]<;>rfl))
  exact Zf
 ·cases e
theorem Zz4 {args:List W} {h h':Hq} {v:V} (e:Zvb args h=some (v,h')):Zb 155 args h v h':=by
 unfold Zvb at e
 split at e
 ·rename_i s
  obtain⟨S,hs,e⟩:=Zk e
  have hs:=Y2 hs
  obtain⟨G,hg,e⟩:=Zk e
  obtain⟨hg,fb⟩:=Jj hg
  obtain⟨X,ht,e⟩:=Zk e
  have ht:=Yr ht
  obtain⟨b,e⟩:=Zv.1 e
  rw[aQ] at b
  obtain⟨bo,bm⟩:=b
  cases e
  refine fnG Hh Tryz.f155 ?_
  repeat (first|apply Z6|apply Og|apply Yt|apply Yc|((first|apply gZ|apply gO fits Hh (EY (EY (EY Za (Zm3 Hh)) (Xy Hh)) (Za3 Hh))); · simp (maxSteps:=9^6) +decide (disch:=first|exact dZ|fail) only [go_sem,Zn,Zi,simprocAttr,hs,ht,hg,gdL,fb,bo,bm]<;>rfl))
  exact Zf
 ·cases e
variable {n q:Nat} {cr:Cr} {md:Int} {S T:Lq} {V:Nat->Lq} {h:Hq}
theorem Z9l (M:HE n q 2 60 32 40 cr md S T V h) {z:Nat} (hz:z<9) (e0:V 0=Vs z) :
  ∃ h',Zb 228 [.c (.ptr (n+13) 0)] h (.tup [.g (Qz z),.c (.int .i64 0)]) h'/\HE n q 2 60 32 40 cr md S T V h'/\Kr n q h h':=by
 obtain⟨nq,nx,n0⟩:=M.nx
 have hG:=fun {h:Hq} (M:HE n q 2 60 32 40 cr md S T V h)=>M.get fine4 (z:=0) ours0 oM
 simp only[e0] at hG
 have xl:(pgL (Vs z)).length=256:=by rw[J3,Zj5]
 have hR:=fun {h:Hq} (hst:h.get 0=some Ot)=>Z3z Hh hz hst
 have sl:(Qz z).length=5:=rfl
 obtain⟨x,hx⟩:=xzE (pgL (Vs z))
 obtain⟨y,hy⟩:=xzE (Qz z)
 simp only[hx,hy] at hG hR ⊢
 rw[hx] at xl
 rw[hy] at sl
 refine O1 ?_
 refine Yk Hh Tryz.f228 ?_
 have Jf:=Yy @xl @sl
 iterate 3 (first|refine Zo Hh Za Jh ?_|apply gS)
 refine Jo fun hA eA=>?_
 have nA:hA.next=h.next+1:=nxQ eA
 have kA:∀ m,m<h.next->hA.get m=h.get m:=kQ eA
 obtain⟨w,wl,aA⟩:∃ w:List C,w.length=5/\hA.get h.next=some (.row 5 [w] false):=⟨_,rfl,by rw[eA]; exact Yn⟩
 clear eA
 obtain⟨hB,e1,MB,nB,rB⟩:=hG (M.keep (h2:=hA) oM (fun m hm=>kA m oM))
 have c1:Zb 34 [.c (.ptr (n+13) 0),.c (.int .i64 0)] hA (.tup [.g x,.c (.int .i64 0)]) hB:=Dp Hh e1
 have aB:=(rB h.next oM oM).trans aA
 iterate 7 (first|refine gZ Jh ?_|refine Zo Hh (Zj Za c1) Jh ?_|apply gS)
 refine Jo fun hC eC=>?_
 have nC:hC.next=h.next+2:=by rw[eC]; simp only[H.Zd,H.Zc]; omega
 have kC:∀ m,m<hB.next->hC.get m=hB.get m:=kQ eC
 have bC:hC.get (h.next+1)=some (.row 256 [x] false):=by rw[eC,show h.next+1=hB.next by omega]; exact Zr
 have aC:=(kC h.next oM).trans aB
 clear eC
 have MC:=MB.keep (h2:=hC) oM (fun m hm=>kC m oM)
 have c4:=hR (h:=hC) MC.cells.1
 have nB':hB.next=h.next+1:=oM
 have Jf:=G6 Jf @bC @aC @wl @nB'
 iterate 2 (first|refine Zo Hh (Zj Za c4) Jh ?_|apply gS)
 refine⟨_,_,Zr,rfl,MC.keep ?_ (fun m hm=>?_),?_,fun m hm hne=>?_⟩
 ·first|omega|(simp only[H.Zd,H.Zc]<;>omega)
 ·exact Ym
 ·first|omega|(simp only[H.Zd,H.Zc]<;>omega)
 ·refine Eq.trans ?_ ((kC m oM).trans ((rB m oM hne).trans (kA m hm))); exact Ym
variable [Opn cr]
theorem Ydx (M:HE n q 2 60 32 40 cr md S T V h) {z u:Nat} (hz:z<9) (hu:u<9) (e0:V 0=Vs z) (s0:0∈S) (t0:0 ∉ T) :
  ∃ h',Zb 157 [.c (.ptr (n+13) 0),.c (.int .u32 (u:Int))] h (.w (.c (.int .i64 0))) h'/\HE n q 2 60 32 40 cr md S T (Gf V 0 (Vs u)) h'/\Kp n q h h':=by
 obtain⟨nq,nx,n0⟩:=M.nx
 obtain⟨hB,c1,MB,rB⟩:=Z9l Hh M hz e0
 have nB:=rB.1
 have sl:(Qz z).length=5:=rfl
 have sl2:(Qz u).length=5:=rfl
 have ws:Z0 5 [Qz z] 4 [.int .u32 (u:Int)]=some [Qz u]:=rfl
 have hW:=fun {h:Hq} (hst:h.get 0=some Ot)=>Zzq Hh hu hst
 have hP:=fun {h:Hq} (M:HE n q 2 60 32 40 cr md S T V h)=>M.put fine4 (z:=0) ours0 oM (Zj5 u) s0 t0
 have xl:(pgL (Vs u)).length=256:=by rw[J3,Zj5]
 obtain⟨x,hx⟩:=xzE (pgL (Vs u))
 obtain⟨y,hy⟩:=xzE (Qz z)
 obtain⟨y2,hy2⟩:∃ y,Qz u=y:=⟨_,rfl⟩
 simp only[hx,hy2] at hW hP
 rw[hx] at xl
 rw[hy] at c1 sl ws
 rw[hy2] at sl2 ws
 refine O1 ?_
 refine Yk Hh Tryz.f157 ?_
 have Jf:=J6 @xl @sl @sl2 @ws
 iterate 3 (first|refine Zo Hh Za Jh ?_|apply gS)
 iterate 9 (first|refine gZ Jh ?_|refine Zo Hh (Zj Za c1) Jh ?_|apply gS)
 refine Jo fun hC eC=>?_
 have nC:hC.next=hB.next+1:=nxQ eC
 have kC:∀ m,m<hB.next->hC.get m=hB.get m:=kQ eC
 have bC:hC.get hB.next=some (.row 5 [y2] false):=by rw[eC]; exact Zr
 clear eC
 have MC:=MB.keep (h2:=hC) oM (fun m hm=>kC m oM)
 have c5:=hW (h:=hC) MC.cells.1
 have Jf:=Ja Jf @bC @nC
 iterate 7 (first|refine gZ Jh ?_|refine Zo Hh (Zj Za c5) Jh ?_|apply gS)
 refine Jo fun hD eD=>?_
 have nD:hD.next=hB.next+2:=by rw[eD]; simp only[H.Zd,H.Zc]; omega
 have kD:∀ m,m<hC.next->hD.get m=hC.get m:=kQ eD
 have bD:hD.get (hB.next+1)=some (.row 256 [x] false):=by rw[eD,<-nC]; exact Zr
 clear eD
 have MD:=MC.keep (h2:=hD) oM (fun m hm=>kD m oM)
 obtain⟨hE,e8,ME,nE,kE⟩:=hP MD
 have c8:Zb 77 [.c (.ptr (n+13) 0),.c (.int .i64 0),.g x] hD (.w (.c (.int .i64 0))) hE:=L8 Hh e8
 have Jf:=Yy Jf @bD
 iterate 2 (first|refine Zo Hh (Zj Za c8) Jh ?_|apply gS)
 exact⟨_,_,Yn,rfl,ME,oM,fun m hm ho=>(kE m ho.1).trans ((kD m oM).trans ((kC m oM).trans (rB.2 m hm ho.1.1)))⟩
end
theorem rs78:Tryz.f78.results.toList=[.tmp 4]:=rfl
attribute [go_sem] rs78
theorem lfN:Y3 K 22 (.c .snil)=true:=kR
section
variable (Hh:Hearts K Tryz.prog)
include Hh
variable {n q:Nat} {cr:Cr} {md:Int} {iw:Nat->Nat × Nat} {S T':Lq} {V:Nat->Lq} {N:List UInt8->Nat} {h:Hq}
theorem Ybb (m0:md≠0) (M:HE n q 2 60 32 40 cr md S T' V h) (e0:V 0=Vs 0) :
  ∃ h',Zb 156 [.c (.ptr (n+13) 0)] h (.tup [.c .snil,.c (.int .i64 0)]) h'/\HE n q 2 60 32 40 cr md S T' V h'/\Kr n q h h':=by
 obtain⟨nq,nx,n0⟩:=M.nx
 obtain⟨st,⟨kn,hs⟩,⟨dk,gl⟩,ht⟩:=M.cells
 unfold gdL gdD at gl
 have dm:(md != 0)=true:=Nu m0
 obtain⟨h1,c2,M1,k1⟩:=Z9l Hh M (z:=0) oM e0
 have sl:(Qz 0).length=5:=rfl
 have s4:read1 5 [Qz 0] 4=some (.int .u32 0):=rfl
 obtain⟨Y,hY⟩:=xzE (Qz 0)
 rw[hY] at c2 sl s4
 refine O1 ?_
 refine Yk Hh Tryz.f156 ?_
 have Jf:=Nk @fine4 @hs @gl @dm @sl @s4
 iterate 8 (first|refine gZ Js ?_|refine Zo Hh (EY Za (Zm3 Hh)) Js ?_|apply gS)
 iterate 21 (first|refine gZ Js ?_|refine Zo Hh (Zj Za c2) Js ?_|apply gS)
 refine⟨_,_,Zf,rfl,M1.keep ?_ (fun m hm=>?_),?_,fun m hm ho=>?_⟩
 ·first|omega|(simp only[H.Zd,H.Zc]<;>omega)
 ·have:=M1.nx; exact Ym
 ·have:=k1.1; first|omega|(simp only[H.Zd,H.Zc]<;>omega)
 ·have:=k1.1; refine Eq.trans ?_ (k1.2 m hm ho); exact Ym
variable [Opn cr]
theorem Ydw (m0:md≠0) (M:HE n q 2 60 32 40 cr md chT [] V h) (T:TLs iw V N 0) :
  ∃ h' V',Zb 78 [.c (.ptr (n+13) 0),.c (.int .i64 2)] h (.w (.c (.int .i64 0))) h'/\HE n q 2 60 32 40 cr md chT [] V' h'/\Kp n q h h':=by
 obtain⟨nq,nx,n0⟩:=M.nx
 obtain⟨st,⟨kn,hs⟩,⟨dk,gl⟩,ht⟩:=M.cells
 unfold gdL gdD at gl
 have dm:(md != 0)=true:=Nu m0
 obtain⟨hB,c4,MB,rB⟩:=Ybb Hh m0 M T.su
 have nB:=rB.1
 obtain⟨hG,c7,MG,rG⟩:=Zi8 Hh fine4 MB (2:Int)
 rw[T.fi] at c7
 have nG:=rG.1
 have il:(Bz 0).length=16:=rfl
 have w15:Z0 16 [Bz 0] 15 [.int .u32 0]=some [Bz 0]:=rfl
 have lf:=lfN
 have wU:Jk .u32 2=.int .u32 2:=rfl
 have hPut:=fun {h:Hq} (M:HE n q 2 60 32 40 cr md chT [] V h)=>TLs.put Hh M T (l':=0) oM
 have hLead:=fun {h:Hq} {V:Nat->Lq} (M:HE n q 2 60 32 40 cr md chT [] V h) (e:V 0=Vs 0)=>Ydx Hh M (z:=0) (u:=2) oM oM e dM (by simp)
 obtain⟨Y,hY⟩:=xzE (Bz 0)
 rw[hY] at c7 il w15
 simp only[hY] at hPut
 obtain⟨v,h',cc,V',rfl,M',kk⟩:∃ v h',Zb 78 [.c (.ptr (n+13) 0),.c (.int .i64 2)] h v h'/\∃ V',v=.w (.c (.int .i64 0))/\HE n q 2 60 32 40 cr md chT [] V' h'/\Kp n q h h':=by
  refine Yk Hh Tryz.f78 ?_
  have Jf:=Yu @fine4 @hs @gl @ht @dm @il @lf @w15 @wU
  iterate 10 (first|refine gZ Oz ?_|refine Zo Hh (EY Za (Zz4 Hh)) Oz ?_|apply gS)
  iterate 7 (first|refine gZ Oz ?_|refine Zo Hh (Zj Za c4) Oz ?_|apply gS)
  iterate 8 (first|refine gZ Oz ?_|refine Zo Hh (Zj Za c7) Oz ?_|apply gS)
  refine Jo fun hA eA=>?_
  have nA:hA.next=hG.next+1:=nxQ eA
  have kA:∀ p,p<hG.next->hA.get p=hG.get p:=kQ eA
  have gA:hA.get hG.next=some (.row 16 [Y] false):=by rw[eA]; exact Zr
  clear eA
  have c10:=Ycw Hh (h:=hA) (c:=.snil) (l:=[]) dM (.inl ⟨rfl,rfl⟩) 2
  have c10:Zb 130 [.c .snil,.c (.int .i64 2)] hA (.w (.c (.bool false))) hA:=c10
  have Jf:=Yy Jf @gA
  iterate 12 (first|refine gZ Oz ?_|refine Zo Hh (Zj Za c10) Oz ?_|apply gS)
  refine Jo fun hC eC=>?_
  have nC:hC.next=hA.next:=nxQ eC
  have kC:∀ p,p≠hG.next->hC.get p=hA.get p:=fun p hp=>by rw[eC,Ze hp]
  have gC:hC.get hG.next=some (.row 16 [Y] false):=by rw[eC,Zy]
  clear eC
  have MC:=MG.keep (h2:=hC) oM (fun m hm=>by rw[kC m (by have:=MG.nx; omega),kA m (by have:=MG.nx; omega)])
  obtain⟨hD,V1,c15,M1,T1,k1⟩:=hPut MC
  obtain⟨hE,c18,M2,k2⟩:=hLead M1 T1.su
  have n1:=k1.1
  have n2:=k2.1
  have Jf:=Yy Jf @gC
  iterate 6 (first|refine gZ Oz ?_|refine Zo Hh (Zj Za c15) Oz ?_|apply gS)
  iterate 2 (first|refine Zo Hh (Zj Za c18) Oz ?_|apply gS)
  exact⟨_,_,Zf,_,rfl,M2,⟨oM,fun p hp ho=>(k2.2 p oM ho).trans ((k1.2 p oM ho).trans ((kC p oM).trans ((kA p oM).trans ((rG.2 p oM ho.1.1).trans (rB.2 p hp ho.1.1)))))⟩⟩
 exact⟨h',V',cc,M',kk⟩
end
end
end Go.Proofs.YtmanipmhebgdbaaGreatDoor
