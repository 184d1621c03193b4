/- quernref05: what each block of a geometry is; what is asked of May, All, Data. -/
import Derived.Test.YtmanipmhebgdbaaGreatDoorWhat3
set_option maxRecDepth 100000
set_option linter.unusedSimpArgs false
set_option linter.unusedVariables false
set_option linter.unusedSectionVars false
namespace Go.Proofs.YtmanipmhebgdbaaGreatDoor
open Go.Ev
noncomputable section
theorem Gw:K.types.get 57=some ti57:=kR
theorem Lp:ti57.size=4:=rfl
theorem Ld:ti57.agg=true:=rfl
theorem Zh1:Zw K 57 0=some (0,ti3):=kR
theorem Zld:Zw K 57 1=some (1,ti3):=kR
theorem Vx:Zw K 57 2=some (2,ti3):=kR
theorem geo0 (a b c d:C):read1 4 [[a,b,c,d]] 0=some a:=rfl
theorem geo1 (a b c d:C):read1 4 [[a,b,c,d]] 1=some b:=rfl
theorem geo2 (a b c d:C):read1 4 [[a,b,c,d]] 2=some c:=rfl
theorem Uu:K.types.get 186=some ti186:=kR
theorem O7:ti186.size=4:=rfl
def thing (k gr at' ino:Int):List C:=[.int .u8 k,.int .i64 gr,.int .i64 at',.int .i64 ino]
def jrL (i:Nat):List (List C):=[thing 1 0 0 0,thing 2 0 0 0]++(List.range i).map fun (j:Nat)=>thing 3 0 j 0
def inL (a ino c:Nat):List (List C):=(List.range c).map fun (k:Nat)=>thing 6 a ((2+k:Nat):Int) ((1+a * ino+4 * k:Nat):Int)
def daL (a ino d:Nat):List (List C):=(List.range d).map fun (k:Nat)=>thing 7 a ((2+ino / 4+k:Nat):Int) 0
def grL (sz ino a:Nat):List (List C):=[thing 4 a 0 0,thing 5 a 1 0]++inL a ino (ino / 4)++daL a ino (sz - (2+ino / 4))
def Wh (sz ino a:Nat):List (List C):=(List.range a).flatMap (grL sz ino)
def Eb (gr sz ino jr:Nat):List (List C):=jrL jr++Wh sz ino gr
theorem Z6b (i:Nat):(jrL i).length=2+i:=by simp [jrL]; omega
theorem Z57 (a ino c:Nat):(inL a ino c).length=c:=by simp [inL]
theorem Z5q (a ino d:Nat):(daL a ino d).length=d:=by simp [daL]
theorem Z53 {sz ino:Nat} (h:3+ino / 4<=sz) (a:Nat):(grL sz ino a).length=sz:=by simp [grL,Z57,Z5q]; omega
theorem Znq (sz ino a:Nat):Wh sz ino (a+1)=Wh sz ino a++grL sz ino a:=by simp [Wh,List.range_succ]
theorem Zqj {sz ino:Nat} (h:3+ino / 4<=sz) (a:Nat):(Wh sz ino a).length=a * sz:=by
 induction a with
 | zero=>simp [Wh]
 | succ a ih=>rw[Znq,List.length_append,ih,Z53 h,Nat.succ_mul]
theorem Jn:K.types.get 181=some ti181:=kR
theorem Us:ti181.desc=.slice 186:=rfl
theorem Za1:Zw K 186 0=some (0,ti5):=kR
theorem Za2:Zw K 186 1=some (1,ti3):=kR
theorem Gn:Zw K 186 3=some (3,ti3):=kR
theorem Sm (n off len sz:Nat):Y4 K 181 (.c (.slice n off len sz))=true:=by unfold Y4; rw[Jn]; rfl
def isD:List C->Bool
 | [.int _ k,.int _ a,_,_]=>k == 7&&a == 0
 | _=>false
def Nj (L:List (List C)):Nat:=(L.filter isD).length
def Zr8 (L:List (List C)):Prop:=∀ x∈L,∃ k a b c:Int,x=thing k a b c
theorem Zfr (gr sz ino jr:Nat):Zr8 (Eb gr sz ino jr):=by
 intro l hl
 simp only[Eb,jrL,Wh,grL,inL,daL,List.mem_append,List.mem_flatMap,List.mem_map,List.mem_cons,List.not_mem_nil,or_false] at hl
 rcases hl with ((h|h)|⟨_,_,h⟩)|⟨_,_,((h|h)|⟨_,_,h⟩)|⟨_,_,h⟩⟩<;>subst h<;>exact⟨_,_,_,_,rfl⟩
structure RG (gr sz ino jr:Nat):Prop where
 may:∀ h:Hq,Zb 97 [.g (Jw gr sz ino jr)] h (.w (.c (.bool true))) h
 all:∀ h:Hq,Zb 98 [.g (Jw gr sz ino jr)] h (.w (.c (.slice h.next 0 (Eb gr sz ino jr).length 4))) (h.new (.row 4 (Eb gr sz ino jr) false))
 data:∀ h:Hq,Zb 99 [.g (Jw gr sz ino jr)] h (.w (.c (.int .i64 (Nj (Eb gr sz ino jr):Nat)))) h
section
variable (Hh:Hearts K Tryz.prog)
include Hh
noncomputable def xNo:Kn:=fun _ _ _=>none
omit Hh in
theorem Zup:Zch K Tryz.prog xNo:=fun _ _ _ _ _ e=>by cases e
theorem rgK:RG 2 60 32 40 :=
 ⟨fun h=>Zx.closed fits Hh Zup gl (n:=20000) kR rfl rfl h,fun h=>Zx.Z5l fits Hh Zup gl (n:=40000) (sz:=4) kR rfl h,fun h=>Zx.closed fits Hh Zup gl (n:=40000) kR rfl rfl h⟩
end
noncomputable def q47 (p:Lq):Code:=piece p (J8 Tryz.f47)
theorem Zdq:q47 [1,1,1,1,1,0,1,2]=.loop (q47 [1,1,1,1,1,0,1,2,2]):=kR
theorem Dj:q47 [1,1,1,1,1,1,1,1,0,1,2]=.loop (q47 [1,1,1,1,1,1,1,1,0,1,2,2]):=kR
theorem Wp:q47 [1,1,1,1,1,1,1,1,0,1,2,2,1,0,2,1,0,1]=.block 4 (q47 [1,1,1,1,1,1,1,1,0,1,2,2,1,0,2,1,0,1,2]):=kR
theorem Ju:q47 [1,1,1,1,1,1,1,1,0,1,2,2,1,0,2,1,0,1,2]=.loop (q47 [1,1,1,1,1,1,1,1,0,1,2,2,1,0,2,1,0,1,2,2]):=kR
def U6 (sz ino:Nat) (k a:Int) (i:Nat):Bool:=if k=4 then (decide (i<2+ino / 4) || decide (sz<=i)) else if k=5 then (decide (ino<=i) || (decide (i=0)&&decide (a=0))) else false
def upto (f:Nat->Bool) (i:Nat):Nat->Bool:=fun j=>decide (j<i)&&f j
theorem Qr (f:Nat->Bool) (i:Nat) (hi:i<2048) (v:Bool) (hv:v=f i):Z0 1 (Ur (upto f i)) i [.bool v]=some (Ur (upto f (i+1))):=by
 subst hv
 have hx:(Ur (upto f i))[i]? = some [.bool (upto f i i)]:=by simp [Ur,hi]
 rw[Zoj hx]
 congr 1
 refine List.ext_getElem (by simp [Ur]) fun t h1 h2=>?_
 simp only[List.getElem_set]
 simp only[Ur,List.getElem_map,List.getElem_range,upto]
 by_cases e:i=t
 ·subst e; simp
 ·rw[if_neg e]
  congr 3
  simp only[decide_eq_decide]
  omega
theorem Zxf (f:Nat->Bool) (i:Nat) (hv:f i=false):Ur (upto f i)=Ur (upto f (i+1)):=by
 unfold Ur
 refine List.map_congr_left fun t _=>?_
 simp only[upto]
 by_cases e:t=i
 ·subst e; simp [hv]
 ·congr 3
  simp only[decide_eq_decide]
  omega
section
variable (Hh:Hearts K Tryz.prog)
include Hh
theorem mk4 {gr sz ino jr:Nat} (F:Fine gr sz ino jr) (p nA nb b:Nat) (hnp:nb≠p) (hnA:nb≠nA) (L:List (List C)) (roA:Bool) (kd a c d:Int) (hx':L[b]? = some (thing kd a c d)) (hlen:L.length<=4000):∀ (k i:Nat) (ts:Zv) (h:Hq),i+k=2048->h.get p=some (.row 4 [[.int .i64 gr,.int .i64 sz,.int .i64 ino,.int .i64 jr]] false)->h.get nA=some (.row 4 L roA)->h.get nb=some (.row 1 (Ur (upto (U6 sz ino kd a) i)) false) ->
  Zg ts 1=.w (.c (.ptr p 0))->Zg ts 4=.w (.c (.slice nA 0 L.length 4))->Zg ts 8=.w (.c (.int .i64 b))->Zg ts 9=.w (.c (.slice nb 0 2048 1))->Zg ts 10=.w (.c (.int .i64 i))->nb<h.next ->
  Z9 159 none (q47 [1,1,1,1,1,1,1,1,0,1,2,2,1,0,2,1,0,1,2]) [] ts h fun x ds' ts' h'=>x=.exit 4/\ds'=[]/\h'.next=h.next/\h'.get nb=some (.row 1 (Ur (U6 sz ino kd a)) false)/\(∀ m,m≠nb->h'.get m=h.get m)/\∀ s,s<=9->Zg ts' s=Zg ts s:=by
 obtain⟨g1,g2,g3,g4,g5,g6,g7,g8,g9,g10,g11⟩:=F
 intro k
 induction k with
 | zero =>
  intro i ts h hi hp hA hb h1 h4 h8 h9 h10 hnb'
  have ei:i=2048:=oM
  subst ei
  have eb:Ur (upto (U6 sz ino kd a) 2048)=Ur (U6 sz ino kd a):=by
   unfold Ur
   refine List.map_congr_left fun t ht=>?_
   have:=List.mem_range.1 ht
   simp [upto,this]
  rw[eb] at hb
  iterate 6 (first|((first|apply Goes.Zi|apply gO fits Hh Za); · simp (decide:=true) only [go_sem,Zy,H.get_put,H.Zp,Zh,Z8,reduceIte,Nat.reduceAdd,Nat.reduceMul,Z4,Ya,asC,Zo,Yy,Yo,h10]<;>rfl)|apply gS)
  refine⟨rfl,rfl,rfl,hb,fun _ _=>rfl,fun s hs=>?_⟩
  simp (decide:=true) only [Y9 hs]
 | succ k ih =>
  intro i ts h hi hp hA hb h1 h4 h8 h9 h10 hnb'
  have hbl:b<L.length:=by
   rcases Nat.lt_or_ge b L.length with h2|h2
   ·exact h2
   ·rw[lN h2] at hx'; cases hx'
  have r0:read1 4 L (b * 4)=some (.int .u8 kd):=Fa (sz:=4) (j:=0) oM hx'
  have r1:read1 4 L (b * 4+1)=some (.int .i64 a):=Fa (sz:=4) (j:=1) oM hx'
  have c1:decide ((i:Int)<2048)=true:=decide_eq_true oM
  have b1:Nat.blt b L.length=true:=Gv hbl
  have b2:Nat.blt i 2048=true:=Gv oM
  have q1:Tt .i64 (ino:Int) 4=some (.int .i64 ((ino / 4:Nat):Int)):=by
   show some (Jm .i64 ((ino:Int).tdiv 4))=_
   rw[show (ino:Int).tdiv 4=((ino / 4:Nat):Int) from rfl,wrap64 oM oM]
  have w0:Jm .i64 (2+((ino / 4:Nat):Int))=.int .i64 ((2+ino / 4:Nat):Int):=by rw[wrap64 oM oM]; congr 1
  have w1:Jm .i64 ((i:Int)+1)=.int .i64 ((i+1:Nat):Int):=by rw[wrap64 oM oM]; congr 1
  have hn1:nA≠nb:=Ne.symm hnA
  by_cases k4:kd=4
  ·have e4:(kd == 4)=true:=by rw[k4]; rfl
   have e5:(kd == 5)=false:=by rw[k4]; rfl
   by_cases hi1:i<2+ino / 4
   ·have c2:decide ((i:Int)<((2+ino / 4:Nat):Int))=true:=decide_eq_true oM
    have wr:=Qr (U6 sz ino kd a) i oM true (by simp [U6,k4,hi1])
    iterate 18 (first|((first|apply Goes.Zi|apply gO fits Hh Za); · simp (decide:=true) only [go_sem,Zy,H.get_put,H.Zp,Zh,Z8,reduceIte,Nat.reduceAdd,Nat.reduceMul,Z4,Ya,asC,Zo,Yy,Yo,h1,h4,h8,h9,h10,hp,hA,hb,hn1,c1,b1,b2,r0,r1,q1,w0,w1,wr,e4,e5,c2,Zld,Vx,geo1,geo2,Za1,Za2,Jn,Us,Uu,O7,Tw,Qy,Zao,Zf5,O4,Ff,Ey,Sy,Zan,Zfq,cW,Nat.zero_add,Nat.add_zero,Nat.mul_one,Nat.beq_refl]<;>rfl)|apply gS)
    show Z9 159 none (.loop (q47 [1,1,1,1,1,1,1,1,0,1,2,2,1,0,2,1,0,1,2,2])) _ _ _ _
    rw[<-Ju]
    refine (ih (i+1) _ _ oM ?_ ?_ ?_ ?_ ?_ ?_ ?_ ?_ ?_).mono ?_
    ·rw[H.get_put,if_neg (Ne.symm hnp)]; exact hp
    ·rw[H.get_put,if_neg (Ne.symm hnA)]; exact hA
    ·rw[H.get_put,if_pos rfl]
    ·exact tZ h1
    ·exact tZ h4
    ·exact tZ h8
    ·exact tZ h9
    ·exact tY
    ·exact hnb'
    ·rintro x ds' ts' h' ⟨e1,e2,e3,e4,e5,e6⟩
     refine⟨e1,e2,e3,e4,fun m hm=>?_,fun s hs=>?_⟩
     ·rw[e5 m hm,H.get_put,if_neg hm]
     ·rw[e6 s hs]
      simp (decide:=true) only [Y9 hs]
   ·have c2:decide ((i:Int)<((2+ino / 4:Nat):Int))=false:=decide_eq_false oM
    have wr:=Qr (U6 sz ino kd a) i oM (decide ((i:Int) >= (sz:Int))) (by simp [U6,k4,hi1])
    iterate 18 (first|((first|apply Goes.Zi|apply gO fits Hh Za); · simp (decide:=true) only [go_sem,Zy,H.get_put,H.Zp,Zh,Z8,reduceIte,Nat.reduceAdd,Nat.reduceMul,Z4,Ya,asC,Zo,Yy,Yo,h1,h4,h8,h9,h10,hp,hA,hb,hn1,c1,b1,b2,r0,r1,q1,w0,w1,wr,e4,e5,c2,Zld,Vx,geo1,geo2,Za1,Za2,Jn,Us,Uu,O7,Tw,Qy,Zao,Zf5,O4,Ff,Ey,Sy,Zan,Zfq,cW,Nat.zero_add,Nat.add_zero,Nat.mul_one,Nat.beq_refl]<;>rfl)|apply gS)
    show Z9 159 none (.loop (q47 [1,1,1,1,1,1,1,1,0,1,2,2,1,0,2,1,0,1,2,2])) _ _ _ _
    rw[<-Ju]
    refine (ih (i+1) _ _ oM ?_ ?_ ?_ ?_ ?_ ?_ ?_ ?_ ?_).mono ?_
    ·rw[H.get_put,if_neg (Ne.symm hnp)]; exact hp
    ·rw[H.get_put,if_neg (Ne.symm hnA)]; exact hA
    ·rw[H.get_put,if_pos rfl]
    ·exact tZ h1
    ·exact tZ h4
    ·exact tZ h8
    ·exact tZ h9
    ·exact tY
    ·exact hnb'
    ·rintro x ds' ts' h' ⟨e1,e2,e3,e4,e5,e6⟩
     refine⟨e1,e2,e3,e4,fun m hm=>?_,fun s hs=>?_⟩
     ·rw[e5 m hm,H.get_put,if_neg hm]
     ·rw[e6 s hs]
      simp (decide:=true) only [Y9 hs]
  ·have e4:(kd == 4)=false:=by simpa using k4
   by_cases k5:kd=5
   ·have e5:(kd == 5)=true:=by rw[k5]; rfl
    by_cases hi1:ino<=i
    ·have c2:decide ((i:Int) >= (ino:Int))=true:=decide_eq_true oM
     have wr:=Qr (U6 sz ino kd a) i oM true (by simp [U6,k5,hi1])
     iterate 18 (first|((first|apply Goes.Zi|apply gO fits Hh Za); · simp (decide:=true) only [go_sem,Zy,H.get_put,H.Zp,Zh,Z8,reduceIte,Nat.reduceAdd,Nat.reduceMul,Z4,Ya,asC,Zo,Yy,Yo,h1,h4,h8,h9,h10,hp,hA,hb,hn1,c1,b1,b2,r0,r1,q1,w0,w1,wr,e4,e5,c2,Zld,Vx,geo1,geo2,Za1,Za2,Jn,Us,Uu,O7,Tw,Qy,Zao,Zf5,O4,Ff,Ey,Sy,Zan,Zfq,cW,Nat.zero_add,Nat.add_zero,Nat.mul_one,Nat.beq_refl]<;>rfl)|apply gS)
     show Z9 159 none (.loop (q47 [1,1,1,1,1,1,1,1,0,1,2,2,1,0,2,1,0,1,2,2])) _ _ _ _
     rw[<-Ju]
     refine (ih (i+1) _ _ oM ?_ ?_ ?_ ?_ ?_ ?_ ?_ ?_ ?_).mono ?_
     ·rw[H.get_put,if_neg (Ne.symm hnp)]; exact hp
     ·rw[H.get_put,if_neg (Ne.symm hnA)]; exact hA
     ·rw[H.get_put,if_pos rfl]
     ·exact tZ h1
     ·exact tZ h4
     ·exact tZ h8
     ·exact tZ h9
     ·exact tY
     ·exact hnb'
     ·rintro x ds' ts' h' ⟨e1,e2,e3,e4,e5,e6⟩
      refine⟨e1,e2,e3,e4,fun m hm=>?_,fun s hs=>?_⟩
      ·rw[e5 m hm,H.get_put,if_neg hm]
      ·rw[e6 s hs]
       simp (decide:=true) only [Y9 hs]
    ·have c2:decide ((i:Int) >= (ino:Int))=false:=decide_eq_false oM
     by_cases hi0:i=0
     ·have c3:(((i:Nat):Int) == 0)=true:=by rw[hi0]; rfl
      have wr:=Qr (U6 sz ino kd a) i oM (a == 0) (by
       rw[U6,if_neg k4,if_pos k5,decide_eq_false hi1,decide_eq_true hi0]
       rfl)
      iterate 18 (first|((first|apply Goes.Zi|apply gO fits Hh Za); · simp (decide:=true) only [go_sem,Zy,H.get_put,H.Zp,Zh,Z8,reduceIte,Nat.reduceAdd,Nat.reduceMul,Z4,Ya,asC,Zo,Yy,Yo,h1,h4,h8,h9,h10,hp,hA,hb,hn1,c1,b1,b2,r0,r1,q1,w0,w1,wr,e4,e5,c2,c3,Zld,Vx,geo1,geo2,Za1,Za2,Jn,Us,Uu,O7,Tw,Qy,Zao,Zf5,O4,Ff,Ey,Sy,Zan,Zfq,cW,Nat.zero_add,Nat.add_zero,Nat.mul_one,Nat.beq_refl]<;>rfl)|apply gS)
      show Z9 159 none (.loop (q47 [1,1,1,1,1,1,1,1,0,1,2,2,1,0,2,1,0,1,2,2])) _ _ _ _
      rw[<-Ju]
      refine (ih (i+1) _ _ oM ?_ ?_ ?_ ?_ ?_ ?_ ?_ ?_ ?_).mono ?_
      ·rw[H.get_put,if_neg (Ne.symm hnp)]; exact hp
      ·rw[H.get_put,if_neg (Ne.symm hnA)]; exact hA
      ·rw[H.get_put,if_pos rfl]
      ·exact tZ h1
      ·exact tZ h4
      ·exact tZ h8
      ·exact tZ h9
      ·exact tY
      ·exact hnb'
      ·rintro x ds' ts' h' ⟨e1,e2,e3,e4,e5,e6⟩
       refine⟨e1,e2,e3,e4,fun m hm=>?_,fun s hs=>?_⟩
       ·rw[e5 m hm,H.get_put,if_neg hm]
       ·rw[e6 s hs]
        simp (decide:=true) only [Y9 hs]
     ·have c3:(((i:Nat):Int) == 0)=false:=by simpa using hi0
      have wr:=Qr (U6 sz ino kd a) i oM false (by simp [U6,k5,hi1,hi0])
      iterate 18 (first|((first|apply Goes.Zi|apply gO fits Hh Za); · simp (decide:=true) only [go_sem,Zy,H.get_put,H.Zp,Zh,Z8,reduceIte,Nat.reduceAdd,Nat.reduceMul,Z4,Ya,asC,Zo,Yy,Yo,h1,h4,h8,h9,h10,hp,hA,hb,hn1,c1,b1,b2,r0,r1,q1,w0,w1,wr,e4,e5,c2,c3,Zld,Vx,geo1,geo2,Za1,Za2,Jn,Us,Uu,O7,Tw,Qy,Zao,Zf5,O4,Ff,Ey,Sy,Zan,Zfq,cW,Nat.zero_add,Nat.add_zero,Nat.mul_one,Nat.beq_refl]<;>rfl)|apply gS)
      show Z9 159 none (.loop (q47 [1,1,1,1,1,1,1,1,0,1,2,2,1,0,2,1,0,1,2,2])) _ _ _ _
      rw[<-Ju]
      refine (ih (i+1) _ _ oM ?_ ?_ ?_ ?_ ?_ ?_ ?_ ?_ ?_).mono ?_
      ·rw[H.get_put,if_neg (Ne.symm hnp)]; exact hp
      ·rw[H.get_put,if_neg (Ne.symm hnA)]; exact hA
      ·rw[H.get_put,if_pos rfl]
      ·exact tZ h1
      ·exact tZ h4
      ·exact tZ h8
      ·exact tZ h9
      ·exact tY
      ·exact hnb'
      ·rintro x ds' ts' h' ⟨e1,e2,e3,e4,e5,e6⟩
       refine⟨e1,e2,e3,e4,fun m hm=>?_,fun s hs=>?_⟩
       ·rw[e5 m hm,H.get_put,if_neg hm]
       ·rw[e6 s hs]
        simp (decide:=true) only [Y9 hs]
   ·have e5:(kd == 5)=false:=by simpa using k5
    have hskip:h.get nb=some (.row 1 (Ur (upto (U6 sz ino kd a) (i+1))) false):=by rw[<-Zxf _ _ (by simp [U6,k4,k5])]; exact hb
    have wr:=hskip
    iterate 18 (first|((first|apply Goes.Zi|apply gO fits Hh Za); · simp (decide:=true) only [go_sem,Zy,H.get_put,H.Zp,Zh,Z8,reduceIte,Nat.reduceAdd,Nat.reduceMul,Z4,Ya,asC,Zo,Yy,Yo,h1,h4,h8,h9,h10,hp,hA,hb,hn1,c1,b1,b2,r0,r1,q1,w0,w1,wr,e4,e5,Zld,Vx,geo1,geo2,Za1,Za2,Jn,Us,Uu,O7,Tw,Qy,Zao,Zf5,O4,Ff,Ey,Sy,Zan,Zfq,cW,Nat.zero_add,Nat.add_zero,Nat.mul_one,Nat.beq_refl]<;>rfl)|apply gS)
    show Z9 159 none (.loop (q47 [1,1,1,1,1,1,1,1,0,1,2,2,1,0,2,1,0,1,2,2])) _ _ _ _
    rw[<-Ju]
    refine (ih (i+1) _ _ oM ?_ ?_ ?_ ?_ ?_ ?_ ?_ ?_ ?_).mono ?_
    ·exact hp
    ·exact hA
    ·exact hskip
    ·exact tZ h1
    ·exact tZ h4
    ·exact tZ h8
    ·exact tZ h9
    ·exact tY
    ·exact hnb'
    ·rintro x ds' ts' h' ⟨e1,e2,e3,e4,e5,e6⟩
     refine⟨e1,e2,e3,e4,e5,fun s hs=>?_⟩
     rw[e6 s hs]
     simp (decide:=true) only [Y9 hs]
end
def Xt:List C:=List.replicate 256 (.int .u8 0)
def Zpp (S D Hd I:List C) (sz ino b:Nat) (x:List C):List C:=match x with
 | [.int _ k,.int _ a,_,.int _ d]=>if b=0 then S else if b=1 then D else if b=2 then Hd else if d=1 then I else pack (U6 sz ino k a)
 | _=>[]
def Dg (S D Hd I:List C) (sz ino:Nat) (L:List (List C)) (i:Nat):List (List C):=(List.range L.length).map fun t=>if t<i then Zpp S D Hd I sz ino t (L[t]?.getD []) else Xt
theorem Z2d (S D Hd I:List C) (sz ino:Nat) (L:List (List C)) (i:Nat):(Dg S D Hd I sz ino L i).length=L.length:=by simp [Dg]
theorem Z2c (S D Hd I:List C) (sz ino:Nat) (L:List (List C)) (i:Nat) (hi:i<L.length):(Dg S D Hd I sz ino L i)[i]? = some Xt:=by simp [Dg,hi]
theorem Zai (S D Hd I:List C) (sz ino:Nat) (L:List (List C)) (i:Nat) (x y:List C) (hx:L[i]? = some x) (hy:y=Zpp S D Hd I sz ino i x):(Dg S D Hd I sz ino L i).set i y=Dg S D Hd I sz ino L (i+1):=by
 subst hy
 refine List.ext_getElem (by simp [Dg]) fun t h1 h2=>?_
 simp only[List.getElem_set]
 simp only[Dg,List.getElem_map,List.getElem_range]
 by_cases e:i=t
 ·subst e
  simp [hx]
 ·rw[if_neg e]
  by_cases h3:t<i
  ·rw[if_pos h3,if_pos oM]
  ·rw[if_neg h3,if_neg oM]
theorem Oc:K.types.get 106=some ti106:=kR
theorem Gm:ti106.desc=.slice 87:=rfl
theorem Z5t:J9 K 184=some ti4:=kR
theorem Z6p (h:Hq) (f:Nat->Bool):U7 h (some ti4) (some 2048) (some 2048)=some (.w (.c (.slice h.next 0 2048 1)),h.new (.row 1 (Ur (upto f 0)) false)):=by
 have e:List.replicate 2048 ti4.zero.cells=Ur (upto f 0):=by
  refine List.ext_getElem (by rw[List.length_replicate]; simp [Ur]) fun t h1 h2=>?_
  rw[List.getElem_replicate]
  simp only[Ur,List.getElem_map,upto]
  rfl
 show some (V.w (.c (.slice h.next 0 2048 1)),h.new (.row 1 (List.replicate 2048 ti4.zero.cells) false))=_
 rw[e]
theorem Zco (a b c d:C):Yr K 191 (some [(0,.g [a,b,c,d])])=some (.g [a,b,c,d,.int .u32 0]):=kR
def Z1g:List C:=match Yr K 195 (some [(0,.c (.int .u32 1))]) with
 | some (.g l)=>l
 | _=>[]
theorem Zgl:Yr K 195 (some [(0,.c (.int .u32 1))])=some (.g Z1g):=kR
def Z58:List C:=match Yr K 43 (some [(0,.c (.int .u8 2)),(1,.c (.int .i64 1)),(2,.c (.int .u32 1))]) with
 | some (.g l)=>l
 | _=>[]
theorem Zmz:Yr K 43 (some [(0,.c (.int .u8 2)),(1,.c (.int .i64 1)),(2,.c (.int .u32 1))])=some (.g Z58):=kR
structure Special (P:Program) (gr sz ino jr:Nat) (L DL:List (List C)) (S D Hd I:List C):Prop where
 s:∀ h:Hq,Zx K P 101 [.g [.int .i64 gr,.int .i64 sz,.int .i64 ino,.int .i64 jr,.int .u32 0]] h (.tup [.g S,.c (.int .i64 0)]) h
 d:∀ (h:Hq) (n:Nat),h.get n=some (.row 3 DL false)->Zx K P 102 [.g (Jw gr sz ino jr),.c (.slice n 0 gr 3)] h (.tup [.g D,.c (.int .i64 0)]) h
 hd:∀ h:Hq,Zx K P 103 [.g Z1g] h (.tup [.g Hd,.c (.int .i64 0)]) h
 i:∀ (h:Hq) (b:Nat) (kd a c:Int),L[b]? = some (thing kd a c 1)->Zx K P 104 [.g (pack (U6 sz ino kd a)),.c (.int .i64 0),.g Z58] h (.tup [.g I,.c (.int .i64 0)]) h
 ls:S.length=256
 ld:D.length=256
 lh:Hd.length=256
 li:I.length=256
section
variable (Hh:Hearts K Tryz.prog)
include Hh
theorem mk2 {gr sz ino jr:Nat} (F:Fine gr sz ino jr) (p nA nO nD:Nat) (h1O:nO≠p) (h2O:nO≠nA) (h3O:nO≠nD) (L DL:List (List C)) (S D Hd I:List C) (Sp:Special Tryz.prog gr sz ino jr L DL S D Hd I) (hT:Zr8 L) (hlen:L.length<=4000):∀ (k b:Nat) (ts:Zv) (h:Hq),b+k=L.length->h.get p=some (.row 4 [Jw gr sz ino jr] false)->h.get nA=some (.row 4 L false)->h.get nD=some (.row 3 DL false)->h.get nO=some (.row 256 (Dg S D Hd I sz ino L b) false) ->
  Zg ts 1=.w (.c (.ptr p 0))->Zg ts 4=.w (.c (.slice nA 0 L.length 4))->Zg ts 5=.w (.c (.slice nO 0 L.length 256))->Zg ts 6=.w (.c (.slice nD 0 gr 3))->Zg ts 8=.w (.c (.int .i64 b))->(p<h.next/\nA<h.next/\nO<h.next/\nD<h.next) ->
  Z9 159 none (q47 [1,1,1,1,1,1,1,1,0,1,2]) [] ts h fun x ds' ts' h'=>x=.exit 2/\ds'=[]/\h.next<=h'.next/\h'.get nO=some (.row 256 (Dg S D Hd I sz ino L L.length) false)/\(∀ m,m≠nO->m<h.next->h'.get m=h.get m)/\Zg ts' 5=.w (.c (.slice nO 0 L.length 256)):=by
 intro k
 induction k with
 | zero =>
  intro b ts h hb hp hA hD hO h1 h4 h5 h6 h8 hlt
  have eb:b=L.length:=oM
  subst eb
  have c1:decide ((L.length:Int)<(L.length:Int))=false:=decide_eq_false oM
  iterate 6 (first|((first|apply Goes.Zi|apply gO fits Hh Za); · simp (decide:=true) only [go_sem,Zy,H.get_put,H.Zp,Zh,Z8,reduceIte,Nat.reduceAdd,Nat.reduceMul,Z4,Ya,asC,Zo,Yy,Yo,h4,h8,c1,Zr,Jl,Sm]<;>rfl)|apply gS)
  refine⟨rfl,rfl,Nat.le_refl _,hO,fun _ _ _=>rfl,?_⟩
  simp (decide:=true) only [Zo,reduceIte,h5]
 | succ k ih =>
  intro b ts h hb hp hA hD hO h1 h4 h5 h6 h8 hlt
  have hbl:b<L.length:=oM
  obtain⟨kd,a,c,d,hx⟩:=hT L[b] (List.getElem_mem hbl)
  have hx':L[b]? = some (thing kd a c d):=by rw[lG hbl,hx]
  have c1:decide ((b:Int)<(L.length:Int))=true:=decide_eq_true oM
  have n2048:Om (some (.int .i64 2048))=some 2048:=rfl
  have ms:=Z6p h (U6 sz ino kd a)
  iterate 13 (first|((first|apply Goes.Zi|apply gO fits Hh Za); · simp (decide:=true) only [go_sem,Zy,H.get_put,H.Zp,Zh,Z8,reduceIte,Nat.reduceAdd,Nat.reduceMul,Z4,Ya,asC,Zo,Yy,Yo,h4,h8,c1,ms,n2048,Zr,Jl,Sm,Z5t]<;>rfl)|apply gS)
  show Z9 159 none (q47 [1,1,1,1,1,1,1,1,0,1,2,2,1,0,2,1,0,1]) _ _ _ _
  rw[Wp]
  refine O9 ((mk4 Hh F p nA h.next b oM oM L false kd a c d hx' hlen 2048 0 _ _ rfl ?_ ?_ ?_ ?_ ?_ ?_ ?_ ?_ ?_).mono ?_)
  ·rw[H.Zp,if_neg oM]; exact hp
  ·rw[H.Zp,if_neg oM]; exact hA
  ·rw[H.Zp,if_pos rfl]
  ·exact tZ h1
  ·exact tZ h4
  ·exact tZ h8
  ·exact tY
  ·simp (decide:=true) only [Zo,reduceIte]
   rfl
  ·rw[H.Ze]; omega
  rintro x ds' ts2 h2 ⟨rfl,rfl,hn2,hb2,hk2,low⟩
  rw[H.Ze] at hn2
  have k1:Zg ts2 1=.w (.c (.ptr p 0)):=by rw[low 1 dM]; simp (decide:=true) only [Zo,reduceIte,h1]
  have k4:Zg ts2 4=.w (.c (.slice nA 0 L.length 4)):=by rw[low 4 dM]; simp (decide:=true) only [Zo,reduceIte,h4]
  have k5:Zg ts2 5=.w (.c (.slice nO 0 L.length 256)):=by rw[low 5 dM]; simp (decide:=true) only [Zo,reduceIte,h5]
  have k6:Zg ts2 6=.w (.c (.slice nD 0 gr 3)):=by rw[low 6 dM]; simp (decide:=true) only [Zo,reduceIte,h6]
  have k8:Zg ts2 8=.w (.c (.int .i64 b)):=by rw[low 8 dM]; simp (decide:=true) only [Zo,reduceIte,h8]
  have k9:Zg ts2 9=.w (.c (.slice h.next 0 2048 1)):=by rw[low 9 dM]; simp (decide:=true) only [Zo,reduceIte]
  have hp2:h2.get p=some (.row 4 [[.int .i64 gr,.int .i64 sz,.int .i64 ino,.int .i64 jr]] false):=by rw[hk2 _ oM,H.Zp,if_neg oM]; exact hp
  have hA2:h2.get nA=some (.row 4 L false):=by rw[hk2 _ oM,H.Zp,if_neg oM]; exact hA
  have hD2:h2.get nD=some (.row 3 DL false):=by rw[hk2 _ oM,H.Zp,if_neg oM]; exact hD
  have hO2:h2.get nO=some (.row 256 (Dg S D Hd I sz ino L b) false):=by rw[hk2 _ oM,H.Zp,if_neg oM]; exact hO
  have b1:Nat.blt b L.length=true:=Gv hbl
  have lp:(pack (U6 sz ino kd a)).length=256:=by simp [pack]
  have wr1:Z0 256 (Dg S D Hd I sz ino L b) (b * 256) (pack (U6 sz ino kd a))=some ((Dg S D Hd I sz ino L b).set b (pack (U6 sz ino kd a))):=Nz lp oM (Z2c _ _ _ _ _ _ _ _ hbl) (by simp [Xt])
  have hE:((Dg S D Hd I sz ino L b).set b (pack (U6 sz ino kd a)))[b]? = some (pack (U6 sz ino kd a)):=by
   rw[List.getElem?_set_self (by rw[Z2d]; exact hbl)]
  have w1:Jm .i64 ((b:Int)+1)=.int .i64 ((b+1:Nat):Int):=by rw[wrap64 oM oM]; congr 1
  have hn1:p≠nO:=Ne.symm h1O
  have hn2':nA≠nO:=Ne.symm h2O
  have hn3:nD≠nO:=Ne.symm h3O
  by_cases b0:b=0
  ·have z0:((b:Int) == 0)=true:=by rw[b0]; rfl
   have z1:=z0
   have z2:=z0
   have setb:=Zai S D Hd I sz ino L b _ S hx' (by rw[b0]; rfl)
   have wr2:Z0 256 ((Dg S D Hd I sz ino L b).set b (pack (U6 sz ino kd a))) (b * 256) S=some (((Dg S D Hd I sz ino L b).set b (pack (U6 sz ino kd a))).set b S):=Nz Sp.ls oM hE lp
   have ls:=Sp.ls
   have rg:Zm 4 [[C.int .i64 gr,.int .i64 sz,.int .i64 ino,.int .i64 jr]] 0 4=some [.int .i64 gr,.int .i64 sz,.int .i64 ino,.int .i64 jr]:=rfl
   apply Z6
   (apply gO fits Hh (Zj Za (Zcq Hh (U6 sz ino kd a) h.next false h2 hb2)); · simp (decide:=true) only [go_sem,Zy,H.get_put,H.Zp,Zh,Z8,reduceIte,Nat.reduceAdd,Nat.reduceMul,Z7,k1,k4,k5,k6,k8,k9,hp2,hA2,hD2,hO2,b1,wr1,lp,w1,z0,z1,z2,wr2,ls,rg,hn1,hn2',Jn,Us,Uu,O7,Gn,Oc,Gm,U9,Gu,Bc,O4,Ff,Ey,Gw,Lp,Ld,cW,gW,Nat.zero_add,Nat.add_zero,Nat.beq_refl,Zco]<;>rfl)
   iterate 4 (first|((first|apply Goes.Zi|apply gO fits Hh Za); · simp (decide:=true) only [go_sem,Zy,H.get_put,H.Zp,Zh,Z8,reduceIte,Nat.reduceAdd,Nat.reduceMul,Z4,Ya,asC,Zo,Yy,Yo,k1,k4,k5,k6,k8,k9,hp2,hA2,hD2,hO2,b1,wr1,lp,w1,z0,z1,z2,wr2,ls,rg,hn1,hn2',Jn,Us,Uu,O7,Gn,Oc,Gm,U9,Gu,Bc,O4,Ff,Ey,Gw,Lp,Ld,cW,gW,Nat.zero_add,Nat.add_zero,Nat.beq_refl,Zco]<;>rfl)|apply gS)
   (apply gO fits Hh (Zj Za (Sp.s (h2.put nO (.row 256 ((Dg S D Hd I sz ino L b).set b (pack (U6 sz ino kd a))) false)))); · simp (decide:=true) only [go_sem,Zy,H.get_put,H.Zp,Zh,Z8,reduceIte,Nat.reduceAdd,Nat.reduceMul,Z7,k1,k4,k5,k6,k8,k9,hp2,hA2,hD2,hO2,b1,wr1,lp,w1,z0,z1,z2,wr2,ls,rg,hn1,hn2',Jn,Us,Uu,O7,Gn,Oc,Gm,U9,Gu,Bc,O4,Ff,Ey,Gw,Lp,Ld,cW,gW,Nat.zero_add,Nat.add_zero,Nat.beq_refl,Zco]<;>rfl)
   (apply gO fits Hh Za; · simp (decide:=true) only [go_sem,Zy,H.get_put,H.Zp,Zh,Z8,reduceIte,Nat.reduceAdd,Nat.reduceMul,k1,k4,k5,k6,k8,k9,hp2,hA2,hD2,hO2,b1,wr1,lp,w1,z0,z1,z2,wr2,ls,rg,hn1,hn2',Jn,Us,Uu,O7,Gn,Oc,Gm,U9,Gu,Bc,O4,Ff,Ey,Gw,Lp,Ld,cW,gW,Nat.zero_add,Nat.add_zero,Nat.beq_refl,Zco]<;>rfl)
   show Z9 159 none (.loop (q47 [1,1,1,1,1,1,1,1,0,1,2,2])) _ _ _ _
   rw[<-Dj]
   refine (ih (b+1) _ _ oM ?_ ?_ ?_ ?_ ?_ ?_ ?_ ?_ ?_ ?_).mono ?_
   ·rw[H.get_put,if_neg oM,H.get_put,if_neg oM,hk2 _ oM,H.Zp,if_neg oM]; exact hp
   ·rw[H.get_put,if_neg oM,H.get_put,if_neg oM,hk2 _ oM,H.Zp,if_neg oM]; exact hA
   ·rw[H.get_put,if_neg oM,H.get_put,if_neg oM,hk2 _ oM,H.Zp,if_neg oM]; exact hD
   ·rw[H.get_put,if_pos rfl,List.set_set,setb]
   ·exact tZ k1
   ·exact tZ k4
   ·exact tZ k5
   ·exact tZ k6
   ·exact tY
   ·simp only[H.Zf]; omega
   ·rintro x ds' ts' h' ⟨e1,e2,e3,e4,e5,e6⟩
    simp only[H.Zf] at e3 e5
    refine⟨e1,e2,oM,e4,fun m hm hlt=>?_,?_⟩
    ·rw[e5 m hm oM]
     rw[H.get_put,if_neg oM,H.get_put,if_neg oM,hk2 _ oM,H.Zp,if_neg oM]
    ·exact e6
  by_cases b1':b=1
  ·have z0:((b:Int) == 0)=false:=by rw[b1']; rfl
   have z1:((b:Int) == 1)=true:=by rw[b1']; rfl
   have z2:=z0
   have setb:=Zai S D Hd I sz ino L b _ D hx' (by rw[b1']; rfl)
   have wr2:Z0 256 ((Dg S D Hd I sz ino L b).set b (pack (U6 sz ino kd a))) (b * 256) D=some (((Dg S D Hd I sz ino L b).set b (pack (U6 sz ino kd a))).set b D):=Nz Sp.ld oM hE lp
   have ls:=Sp.ld
   have rg:Zm 4 [[C.int .i64 gr,.int .i64 sz,.int .i64 ino,.int .i64 jr]] 0 4=some [.int .i64 gr,.int .i64 sz,.int .i64 ino,.int .i64 jr]:=rfl
   have dD:Zb 102 [.g [.int .i64 gr,.int .i64 sz,.int .i64 ino,.int .i64 jr],.c (.slice nD 0 gr 3)] (h2.put nO (.row 256 ((Dg S D Hd I sz ino L b).set b (pack (U6 sz ino kd a))) false)) (.tup [.g D,.c (.int .i64 0)]) (h2.put nO (.row 256 ((Dg S D Hd I sz ino L b).set b (pack (U6 sz ino kd a))) false)):=Sp.d _ nD (by rw[H.get_put,if_neg hn3]; exact hD2)
   apply Z6
   (apply gO fits Hh (Zj Za (Zcq Hh (U6 sz ino kd a) h.next false h2 hb2)); · simp (decide:=true) only [go_sem,Zy,H.get_put,H.Zp,Zh,Z8,reduceIte,Nat.reduceAdd,Nat.reduceMul,Z7,k1,k4,k5,k6,k8,k9,hp2,hA2,hD2,hO2,b1,wr1,lp,w1,z0,z1,z2,wr2,ls,rg,hn1,hn2',Jn,Us,Uu,O7,Gn,Oc,Gm,U9,Gu,Bc,O4,Ff,Ey,Gw,Lp,Ld,cW,gW,Nat.zero_add,Nat.add_zero,Nat.beq_refl]<;>rfl)
   iterate 7 (first|((first|apply Goes.Zi|apply gO fits Hh Za); · simp (decide:=true) only [go_sem,Zy,H.get_put,H.Zp,Zh,Z8,reduceIte,Nat.reduceAdd,Nat.reduceMul,Z4,Ya,asC,Zo,Yy,Yo,k1,k4,k5,k6,k8,k9,hp2,hA2,hD2,hO2,b1,wr1,lp,w1,z0,z1,z2,wr2,ls,rg,hn1,hn2',Jn,Us,Uu,O7,Gn,Oc,Gm,U9,Gu,Bc,O4,Ff,Ey,Gw,Lp,Ld,cW,gW,Nat.zero_add,Nat.add_zero,Nat.beq_refl]<;>rfl)|apply gS)
   (apply gO fits Hh (Zj Za dD); · simp (decide:=true) only [go_sem,Zy,H.get_put,H.Zp,Zh,Z8,reduceIte,Nat.reduceAdd,Nat.reduceMul,Z7,k1,k4,k5,k6,k8,k9,hp2,hA2,hD2,hO2,b1,wr1,lp,w1,z0,z1,z2,wr2,ls,rg,hn1,hn2',Jn,Us,Uu,O7,Gn,Oc,Gm,U9,Gu,Bc,O4,Ff,Ey,Gw,Lp,Ld,cW,gW,Nat.zero_add,Nat.add_zero,Nat.beq_refl]<;>rfl)
   (apply gO fits Hh Za; · simp (decide:=true) only [go_sem,Zy,H.get_put,H.Zp,Zh,Z8,reduceIte,Nat.reduceAdd,Nat.reduceMul,k1,k4,k5,k6,k8,k9,hp2,hA2,hD2,hO2,b1,wr1,lp,w1,z0,z1,z2,wr2,ls,rg,hn1,hn2',Jn,Us,Uu,O7,Gn,Oc,Gm,U9,Gu,Bc,O4,Ff,Ey,Gw,Lp,Ld,cW,gW,Nat.zero_add,Nat.add_zero,Nat.beq_refl]<;>rfl)
   show Z9 159 none (.loop (q47 [1,1,1,1,1,1,1,1,0,1,2,2])) _ _ _ _
   rw[<-Dj]
   refine (ih (b+1) _ _ oM ?_ ?_ ?_ ?_ ?_ ?_ ?_ ?_ ?_ ?_).mono ?_
   ·rw[H.get_put,if_neg oM,H.get_put,if_neg oM,hk2 _ oM,H.Zp,if_neg oM]; exact hp
   ·rw[H.get_put,if_neg oM,H.get_put,if_neg oM,hk2 _ oM,H.Zp,if_neg oM]; exact hA
   ·rw[H.get_put,if_neg oM,H.get_put,if_neg oM,hk2 _ oM,H.Zp,if_neg oM]; exact hD
   ·rw[H.get_put,if_pos rfl,List.set_set,setb]
   ·exact tZ k1
   ·exact tZ k4
   ·exact tZ k5
   ·exact tZ k6
   ·exact tY
   ·simp only[H.Zf]; omega
   ·rintro x ds' ts' h' ⟨e1,e2,e3,e4,e5,e6⟩
    simp only[H.Zf] at e3 e5
    refine⟨e1,e2,oM,e4,fun m hm hlt=>?_,?_⟩
    ·rw[e5 m hm oM]
     rw[H.get_put,if_neg oM,H.get_put,if_neg oM,hk2 _ oM,H.Zp,if_neg oM]
    ·exact e6
  have z0:((b:Int) == 0)=false:=by simpa using b0
  have z1:((b:Int) == 1)=false:=by
   have:¬ (b:Int)=1:=oM
   simpa using this
  by_cases b2:b=2
  ·have z2:((b:Int) == 2)=true:=by rw[b2]; rfl
   have setb:=Zai S D Hd I sz ino L b _ Hd hx' (by rw[b2]; rfl)
   have wr2:Z0 256 ((Dg S D Hd I sz ino L b).set b (pack (U6 sz ino kd a))) (b * 256) Hd=some (((Dg S D Hd I sz ino L b).set b (pack (U6 sz ino kd a))).set b Hd):=Nz Sp.lh oM hE lp
   have ls:=Sp.lh
   apply Z6
   (apply gO fits Hh (Zj Za (Zcq Hh (U6 sz ino kd a) h.next false h2 hb2)); · simp (decide:=true) only [go_sem,Zy,H.get_put,H.Zp,Zh,Z8,reduceIte,Nat.reduceAdd,Nat.reduceMul,Z7,k1,k4,k5,k6,k8,k9,hp2,hA2,hD2,hO2,b1,wr1,lp,w1,z0,z1,z2,wr2,ls,hn1,hn2',Jn,Us,Uu,O7,Gn,Oc,Gm,U9,Gu,Bc,O4,Ff,Ey,Gw,Lp,Ld,cW,gW,Nat.zero_add,Nat.add_zero,Nat.beq_refl,Zgl]<;>rfl)
   iterate 10 (first|((first|apply Goes.Zi|apply gO fits Hh Za); · simp (decide:=true) only [go_sem,Zy,H.get_put,H.Zp,Zh,Z8,reduceIte,Nat.reduceAdd,Nat.reduceMul,Z4,Ya,asC,Zo,Yy,Yo,k1,k4,k5,k6,k8,k9,hp2,hA2,hD2,hO2,b1,wr1,lp,w1,z0,z1,z2,wr2,ls,hn1,hn2',Jn,Us,Uu,O7,Gn,Oc,Gm,U9,Gu,Bc,O4,Ff,Ey,Gw,Lp,Ld,cW,gW,Nat.zero_add,Nat.add_zero,Nat.beq_refl,Zgl]<;>rfl)|apply gS)
   (apply gO fits Hh (Zj Za (Sp.hd (h2.put nO (.row 256 ((Dg S D Hd I sz ino L b).set b (pack (U6 sz ino kd a))) false)))); · simp (decide:=true) only [go_sem,Zy,H.get_put,H.Zp,Zh,Z8,reduceIte,Nat.reduceAdd,Nat.reduceMul,Z7,k1,k4,k5,k6,k8,k9,hp2,hA2,hD2,hO2,b1,wr1,lp,w1,z0,z1,z2,wr2,ls,hn1,hn2',Jn,Us,Uu,O7,Gn,Oc,Gm,U9,Gu,Bc,O4,Ff,Ey,Gw,Lp,Ld,cW,gW,Nat.zero_add,Nat.add_zero,Nat.beq_refl,Zgl]<;>rfl)
   (apply gO fits Hh Za; · simp (decide:=true) only [go_sem,Zy,H.get_put,H.Zp,Zh,Z8,reduceIte,Nat.reduceAdd,Nat.reduceMul,k1,k4,k5,k6,k8,k9,hp2,hA2,hD2,hO2,b1,wr1,lp,w1,z0,z1,z2,wr2,ls,hn1,hn2',Jn,Us,Uu,O7,Gn,Oc,Gm,U9,Gu,Bc,O4,Ff,Ey,Gw,Lp,Ld,cW,gW,Nat.zero_add,Nat.add_zero,Nat.beq_refl,Zgl]<;>rfl)
   show Z9 159 none (.loop (q47 [1,1,1,1,1,1,1,1,0,1,2,2])) _ _ _ _
   rw[<-Dj]
   refine (ih (b+1) _ _ oM ?_ ?_ ?_ ?_ ?_ ?_ ?_ ?_ ?_ ?_).mono ?_
   ·rw[H.get_put,if_neg oM,H.get_put,if_neg oM,hk2 _ oM,H.Zp,if_neg oM]; exact hp
   ·rw[H.get_put,if_neg oM,H.get_put,if_neg oM,hk2 _ oM,H.Zp,if_neg oM]; exact hA
   ·rw[H.get_put,if_neg oM,H.get_put,if_neg oM,hk2 _ oM,H.Zp,if_neg oM]; exact hD
   ·rw[H.get_put,if_pos rfl,List.set_set,setb]
   ·exact tZ k1
   ·exact tZ k4
   ·exact tZ k5
   ·exact tZ k6
   ·exact tY
   ·simp only[H.Zf]; omega
   ·rintro x ds' ts' h' ⟨e1,e2,e3,e4,e5,e6⟩
    simp only[H.Zf] at e3 e5
    refine⟨e1,e2,oM,e4,fun m hm hlt=>?_,?_⟩
    ·rw[e5 m hm oM]
     rw[H.get_put,if_neg oM,H.get_put,if_neg oM,hk2 _ oM,H.Zp,if_neg oM]
    ·exact e6
  have z2:((b:Int) == 2)=false:=by
   have:¬ (b:Int)=2:=oM
   simpa using this
  have r3:read1 4 L (b * 4+3)=some (.int .i64 d):=Fa (sz:=4) (j:=3) oM hx'
  by_cases d1:d=1
  ·have e1:(d == 1)=true:=by rw[d1]; rfl
   have setb:=Zai S D Hd I sz ino L b _ I hx' (by simp only[thing,Zpp]; rw[if_neg b0,if_neg b1',if_neg b2,if_pos d1])
   have wr2:Z0 256 ((Dg S D Hd I sz ino L b).set b (pack (U6 sz ino kd a))) (b * 256) I=some (((Dg S D Hd I sz ino L b).set b (pack (U6 sz ino kd a))).set b I):=Nz Sp.li oM hE lp
   have ls:=Sp.li
   have rb:Zm 256 ((Dg S D Hd I sz ino L b).set b (pack (U6 sz ino kd a))) (b * 256) 256=some (pack (U6 sz ino kd a)):=Zjb oM hE lp
   apply Z6
   (apply gO fits Hh (Zj Za (Zcq Hh (U6 sz ino kd a) h.next false h2 hb2)); · simp (decide:=true) only [go_sem,Zy,H.get_put,H.Zp,Zh,Z8,reduceIte,Nat.reduceAdd,Nat.reduceMul,Z7,k1,k4,k5,k6,k8,k9,hp2,hA2,hD2,hO2,b1,wr1,lp,w1,z0,z1,z2,wr2,ls,r3,e1,rb,hn1,hn2',Jn,Us,Uu,O7,Gn,Oc,Gm,U9,Gu,Bc,O4,Ff,Ey,Gw,Lp,Ld,cW,gW,Nat.zero_add,Nat.add_zero,Nat.beq_refl,Zmz]<;>rfl)
   iterate 13 (first|((first|apply Goes.Zi|apply gO fits Hh Za); · simp (decide:=true) only [go_sem,Zy,H.get_put,H.Zp,Zh,Z8,reduceIte,Nat.reduceAdd,Nat.reduceMul,Z4,Ya,asC,Zo,Yy,Yo,k1,k4,k5,k6,k8,k9,hp2,hA2,hD2,hO2,b1,wr1,lp,w1,z0,z1,z2,wr2,ls,r3,e1,rb,hn1,hn2',Jn,Us,Uu,O7,Gn,Oc,Gm,U9,Gu,Bc,O4,Ff,Ey,Gw,Lp,Ld,cW,gW,Nat.zero_add,Nat.add_zero,Nat.beq_refl,Zmz]<;>rfl)|apply gS)
   (apply gO fits Hh (Zj Za (Sp.i (h2.put nO (.row 256 ((Dg S D Hd I sz ino L b).set b (pack (U6 sz ino kd a))) false)) b kd a c (d1 ▸ hx'))); · simp (decide:=true) only [go_sem,Zy,H.get_put,H.Zp,Zh,Z8,reduceIte,Nat.reduceAdd,Nat.reduceMul,Z7,k1,k4,k5,k6,k8,k9,hp2,hA2,hD2,hO2,b1,wr1,lp,w1,z0,z1,z2,wr2,ls,r3,e1,rb,hn1,hn2',Jn,Us,Uu,O7,Gn,Oc,Gm,U9,Gu,Bc,O4,Ff,Ey,Gw,Lp,Ld,cW,gW,Nat.zero_add,Nat.add_zero,Nat.beq_refl,Zmz]<;>rfl)
   (apply gO fits Hh Za; · simp (decide:=true) only [go_sem,Zy,H.get_put,H.Zp,Zh,Z8,reduceIte,Nat.reduceAdd,Nat.reduceMul,k1,k4,k5,k6,k8,k9,hp2,hA2,hD2,hO2,b1,wr1,lp,w1,z0,z1,z2,wr2,ls,r3,e1,rb,hn1,hn2',Jn,Us,Uu,O7,Gn,Oc,Gm,U9,Gu,Bc,O4,Ff,Ey,Gw,Lp,Ld,cW,gW,Nat.zero_add,Nat.add_zero,Nat.beq_refl,Zmz]<;>rfl)
   show Z9 159 none (.loop (q47 [1,1,1,1,1,1,1,1,0,1,2,2])) _ _ _ _
   rw[<-Dj]
   refine (ih (b+1) _ _ oM ?_ ?_ ?_ ?_ ?_ ?_ ?_ ?_ ?_ ?_).mono ?_
   ·rw[H.get_put,if_neg oM,H.get_put,if_neg oM,hk2 _ oM,H.Zp,if_neg oM]; exact hp
   ·rw[H.get_put,if_neg oM,H.get_put,if_neg oM,hk2 _ oM,H.Zp,if_neg oM]; exact hA
   ·rw[H.get_put,if_neg oM,H.get_put,if_neg oM,hk2 _ oM,H.Zp,if_neg oM]; exact hD
   ·rw[H.get_put,if_pos rfl,List.set_set,setb]
   ·exact tZ k1
   ·exact tZ k4
   ·exact tZ k5
   ·exact tZ k6
   ·exact tY
   ·simp only[H.Zf]; omega
   ·rintro x ds' ts' h' ⟨e1,e2,e3,e4,e5,e6⟩
    simp only[H.Zf] at e3 e5
    refine⟨e1,e2,oM,e4,fun m hm hlt=>?_,?_⟩
    ·rw[e5 m hm oM]
     rw[H.get_put,if_neg oM,H.get_put,if_neg oM,hk2 _ oM,H.Zp,if_neg oM]
    ·exact e6
  ·have e1:(d == 1)=false:=by simpa using d1
   have setb:=Zai S D Hd I sz ino L b _ (pack (U6 sz ino kd a)) hx' (by simp only[thing,Zpp]; rw[if_neg b0,if_neg b1',if_neg b2,if_neg d1])
   apply Z6
   (apply gO fits Hh (Zj Za (Zcq Hh (U6 sz ino kd a) h.next false h2 hb2)); · simp (decide:=true) only [go_sem,Zy,H.get_put,H.Zp,Zh,Z8,reduceIte,Nat.reduceAdd,Nat.reduceMul,Z7,k1,k4,k5,k6,k8,k9,hp2,hA2,hD2,hO2,b1,wr1,lp,w1,z0,z1,z2,r3,e1,hn1,hn2',Jn,Us,Uu,O7,Gn,Oc,Gm,U9,Gu,Bc,O4,Ff,Ey,Gw,Lp,Ld,cW,gW,Nat.zero_add,Nat.add_zero,Nat.beq_refl]<;>rfl)
   iterate 15 (first|((first|apply Goes.Zi|apply gO fits Hh Za); · simp (decide:=true) only [go_sem,Zy,H.get_put,H.Zp,Zh,Z8,reduceIte,Nat.reduceAdd,Nat.reduceMul,Z4,Ya,asC,Zo,Yy,Yo,k1,k4,k5,k6,k8,k9,hp2,hA2,hD2,hO2,b1,wr1,lp,w1,z0,z1,z2,r3,e1,hn1,hn2',Jn,Us,Uu,O7,Gn,Oc,Gm,U9,Gu,Bc,O4,Ff,Ey,Gw,Lp,Ld,cW,gW,Nat.zero_add,Nat.add_zero,Nat.beq_refl]<;>rfl)|apply gS)
   show Z9 159 none (.loop (q47 [1,1,1,1,1,1,1,1,0,1,2,2])) _ _ _ _
   rw[<-Dj]
   refine (ih (b+1) _ _ oM ?_ ?_ ?_ ?_ ?_ ?_ ?_ ?_ ?_ ?_).mono ?_
   ·rw[H.get_put,if_neg oM,hk2 _ oM,H.Zp,if_neg oM]; exact hp
   ·rw[H.get_put,if_neg oM,hk2 _ oM,H.Zp,if_neg oM]; exact hA
   ·rw[H.get_put,if_neg oM,hk2 _ oM,H.Zp,if_neg oM]; exact hD
   ·rw[H.get_put,if_pos rfl,setb]
   ·exact tZ k1
   ·exact tZ k4
   ·exact tZ k5
   ·exact tZ k6
   ·exact tY
   ·simp only[H.Zf]; omega
   ·rintro x ds' ts' h' ⟨e1,e2,e3,e4,e5,e6⟩
    simp only[H.Zf] at e3 e5
    refine⟨e1,e2,oM,e4,fun m hm hlt=>?_,?_⟩
    ·rw[e5 m hm oM]
     rw[H.get_put,if_neg oM,hk2 _ oM,H.Zp,if_neg oM]
    ·exact e6
end
theorem Za0:J9 K 125=some ti134:=kR
theorem Zwq:K.types.get 125=some ti125:=kR
theorem Z9g:ti125.desc=.slice 134:=rfl
theorem Ya5:K.types.get 134=some ti134:=kR
theorem Z2y:ti134.size=3:=rfl
theorem Z8d:ti134.bytes=24:=rfl
theorem Z9n:Zw K 134 1=some (1,ti3):=kR
theorem Z9o:Zw K 134 2=some (2,ti3):=kR
theorem Zbd (n off len sz:Nat):Jt K 125 (.slice n off len sz)=true:=by unfold Jt; rw[Zwq]; rfl
theorem Zav (a b:Int):Yr K 134 (some [(0,.c (.int .i64 a)),(1,.c (.int .i64 b))])=some (.g [.int .i64 a,.int .i64 b,.int .i64 0]):=kR
theorem Zed (h:Hq) (a b c:C):Js h 1 (some ti134) (some [(0,.g [a,b,c])])=some (.w (.c (.slice h.next 0 1 3)),h.new (.row 3 [[a,b,c]] false)):=rfl
def Zbs (dn ino:Nat):List C:=[.int .i64 dn,.int .i64 ino,.int .i64 0]
theorem Ycj {h:Hq} {n:Nat} {L:List (List C)} (x:List C) (ho:h.get n=some (.row 3 L false)) (hn:n<h.next) (hl:L.length<=4000) :
  O3 (h.new (.row 3 [x] false)) (some ti134) (.slice n 0 L.length 3) (.slice h.next 0 1 3)=some (.w (.c (.slice (h.next+1) 0 (L.length+1) 3)),((h.new (.row 3 [x] false)).del n).new (.row 3 (L++[x]) false)) :=
 Zkx (M:=[x]) Z2y (by rw[H.Zp,if_neg oM]; exact ho) (by rw[H.Zp,if_pos rfl]) (by simp) (by rw[Z8d]; show (L.length+1) * 24<=_; omega) (by show L.length+1<=_; omega)
theorem Z9t {h:Hq} (x:List C) :
  O3 (h.new (.row 3 [x] false)) (some ti134) .snil (.slice h.next 0 1 3)=some (.w (.c (.slice (h.next+1) 0 1 3)),(h.new (.row 3 [x] false)).new (.row 3 [x] false)) :=
 append_nil (M:=[x]) Z2y (by rw[H.Zp,if_pos rfl]) (by simp) (by rw[Z8d]; show 1 * 24<=_; omega) (by show 1<=_; omega)
section
variable (Hh:Hearts K Tryz.prog)
include Hh
theorem mk0 {gr sz ino jr:Nat} (F:Fine gr sz ino jr) (G:RG gr sz ino jr) (p base:Nat) (hpb:p<base):∀ (k i:Nat) (ts:Zv) (h:Hq),i+k=gr->base<=h.next->h.get p=some (.row 4 [Jw gr sz ino jr] false)->Zg ts 1=.w (.c (.ptr p 0))->Zg ts 7=.w (.c (.int .i64 i))->(i=0/\Zg ts 6=.w (.c .snil)\/∃ n,base<=n/\n<h.next/\Zg ts 6=.w (.c (.slice n 0 i 3))/\h.get n=some (.row 3 (List.replicate i (Zbs (Nj (Eb gr sz ino jr)) ino)) false)) ->
  Z9 159 none (q47 [1,1,1,1,1,0,1,2]) [] ts h fun x ds' ts' h'=>x=.exit 0/\ds'=[]/\h.next<=h'.next/\(∀ m,m<base->h'.get m=h.get m)/\Zg ts' 1=Zg ts 1/\Zg ts' 4=Zg ts 4/\Zg ts' 5=Zg ts 5/\∃ n,base<=n/\n<h'.next/\Zg ts' 6=.w (.c (.slice n 0 gr 3))/\h'.get n=some (.row 3 (List.replicate gr (Zbs (Nj (Eb gr sz ino jr)) ino)) false):=by
 have F':=F
 obtain⟨g1,g2,g3,g4,g5,g6,g7,g8,g9,g10,g11⟩:=F
 intro k
 induction k with
 | zero =>
  intro i ts h hi hb hp h1 h7 st
  have ei:i=gr:=oM
  subst ei
  have hp':h.get p=some (.row 4 [[.int .i64 i,.int .i64 sz,.int .i64 ino,.int .i64 jr]] false):=hp
  have c1:decide ((i:Int)<(i:Int))=false:=decide_eq_false oM
  iterate 6 (first|((first|apply Goes.Zi|apply gO fits Hh Za); · simp (decide:=true) only [go_sem,Zy,H.get_put,H.Zp,Zh,Z8,reduceIte,Nat.reduceAdd,Nat.reduceMul,Z4,Ya,asC,Zo,Yy,Yo,h1,h7,hp',c1,Zh1,geo0,O4,Ff,Ey,cW,Nat.zero_add]<;>rfl)|apply gS)
  rcases st with ⟨e,_⟩|⟨n,n1,n2,n3,n4⟩
  ·omega
  refine⟨rfl,rfl,Nat.le_refl _,fun _ _=>rfl,?_,?_,?_,n,n1,n2,?_,n4⟩
  ·exact tY
  ·exact tY
  ·exact tY
  ·exact tZ n3
 | succ k ih =>
  intro i ts h hi hb hp h1 h7 st
  have hp':h.get p=some (.row 4 [[.int .i64 gr,.int .i64 sz,.int .i64 ino,.int .i64 jr]] false):=hp
  have c1:decide ((i:Int)<(gr:Int))=true:=decide_eq_true oM
  have w1:Jm .i64 ((i:Int)+1)=.int .i64 ((i+1:Nat):Int):=by rw[wrap64 oM oM]; congr 1
  have rg:Zm 4 [[C.int .i64 gr,.int .i64 sz,.int .i64 ino,.int .i64 jr]] 0 4=some [.int .i64 gr,.int .i64 sz,.int .i64 ino,.int .i64 jr]:=rfl
  have dk:Zb 99 [.g [.int .i64 gr,.int .i64 sz,.int .i64 ino,.int .i64 jr]] h (.w (.c (.int .i64 (Nj (Eb gr sz ino jr):Nat)))) h:=G.data h
  rcases st with ⟨e,h6⟩|⟨n,n1,n2,n3,n4⟩
  ·subst e
   have ap:=Z9t (h:=h) (Zbs (Nj (Eb gr sz ino jr)) ino)
   simp only[Zbs] at ap
   have q1:p≠h.next:=oM
   have q2:p≠h.next+1:=oM
   iterate 8 (first|((first|apply Goes.Zi|apply gO fits Hh Za); · simp (decide:=true) only [go_sem,Zy,H.get_put,H.Zp,Zh,Z8,reduceIte,Nat.reduceAdd,Nat.reduceMul,Z4,Ya,asC,Zo,Yy,Yo,h1,h6,h7,hp',c1,w1,rg,ap,q1,q2,Zh1,geo0,Vx,geo2,O4,Ff,Ey,Gw,Ld,Lp,cW,gW,Nat.zero_add,Za0,Zbd,Zav,Zed,Zr]<;>rfl)|apply gS)
   (apply Goes.drawn2 fits Hh (Zj Za dk) kR; · simp (decide:=true) only [go_sem,H.get_put,H.Zp,Zh,Z8,reduceIte,Nat.reduceAdd,Nat.reduceMul,drG,Z7,h1,h6,h7,hp',c1,w1,rg,ap,q1,q2,Zh1,geo0,Vx,geo2,O4,Ff,Ey,Gw,Ld,Lp,cW,gW,Nat.zero_add,Za0,Zbd,Zav,Zed,Zr]<;>rfl)
   (apply gO fits Hh Za; · simp (decide:=true) only [go_sem,Zy,H.get_put,H.Zp,Zh,Z8,reduceIte,Nat.reduceAdd,Nat.reduceMul,h1,h6,h7,hp',c1,w1,rg,ap,q1,q2,Zh1,geo0,Vx,geo2,O4,Ff,Ey,Gw,Ld,Lp,cW,gW,Nat.zero_add,Za0,Zbd,Zav,Zed,Zr]<;>rfl)
   show Z9 159 none (.loop (q47 [1,1,1,1,1,0,1,2,2])) _ _ _ _
   rw[<-Zdq]
   refine (ih 1 _ _ oM ?_ ?_ ?_ ?_ (.inr ⟨h.next+1,oM,?_,?_,?_⟩)).mono ?_
   ·simp only[H.Ze,H.Yv]; omega
   ·rw[H.Zp,H.Ze,if_neg oM,H.Zp,if_neg oM]; exact hp
   ·exact tZ h1
   ·exact tX
   ·simp only[H.Ze,H.Yv]; omega
   ·exact tX
   ·rw[H.Zp,H.Ze,if_pos rfl]; rfl
   ·rintro x ds' ts' h' ⟨e1,e2,e3,e4,e5,e6,e7,e8⟩
    simp only[H.Ze,H.Yv] at e3
    refine⟨e1,e2,oM,fun m hm=>?_,?_,?_,?_,e8⟩
    ·rw[e4 m hm]
     rw[H.Zp,H.Ze,if_neg oM,H.Zp,if_neg oM]
    ·rw[e5]; simp (decide:=true) only [Zo,reduceIte]
    ·rw[e6]; simp (decide:=true) only [Zo,reduceIte]
    ·rw[e7]; simp (decide:=true) only [Zo,reduceIte]
  ·have ap:=Ycj (Zbs (Nj (Eb gr sz ino jr)) ino) n4 n2 (by rw[List.length_replicate]; omega)
   simp only[Zbs,List.length_replicate] at ap
   have q1:p≠h.next:=oM
   have q2:p≠h.next+1:=oM
   have q3:p≠n:=oM
   iterate 8 (first|((first|apply Goes.Zi|apply gO fits Hh Za); · simp (decide:=true) only [go_sem,Zy,H.get_put,H.Zp,Zh,Z8,reduceIte,Nat.reduceAdd,Nat.reduceMul,Z4,Ya,asC,Zo,Yy,Yo,h1,n3,h7,hp',c1,w1,rg,ap,q1,q2,q3,Zh1,geo0,Vx,geo2,O4,Ff,Ey,Gw,Ld,Lp,cW,gW,Nat.zero_add,Za0,Zbd,Zav,Zed,Zr,H.D5,H.Yv]<;>rfl)|apply gS)
   (apply Goes.drawn2 fits Hh (Zj Za dk) kR; · simp (decide:=true) only [go_sem,H.get_put,H.Zp,Zh,Z8,reduceIte,Nat.reduceAdd,Nat.reduceMul,drG,Z7,h1,n3,h7,hp',c1,w1,rg,ap,q1,q2,q3,Zh1,geo0,Vx,geo2,O4,Ff,Ey,Gw,Ld,Lp,cW,gW,Nat.zero_add,Za0,Zbd,Zav,Zed,Zr,H.D5,H.Yv]<;>rfl)
   (apply gO fits Hh Za; · simp (decide:=true) only [go_sem,Zy,H.get_put,H.Zp,Zh,Z8,reduceIte,Nat.reduceAdd,Nat.reduceMul,h1,n3,h7,hp',c1,w1,rg,ap,q1,q2,q3,Zh1,geo0,Vx,geo2,O4,Ff,Ey,Gw,Ld,Lp,cW,gW,Nat.zero_add,Za0,Zbd,Zav,Zed,Zr,H.D5,H.Yv]<;>rfl)
   show Z9 159 none (.loop (q47 [1,1,1,1,1,0,1,2,2])) _ _ _ _
   rw[<-Zdq]
   refine (ih (i+1) _ _ oM ?_ ?_ ?_ ?_ (.inr ⟨h.next+1,oM,?_,?_,?_⟩)).mono ?_
   ·simp only[H.Ze,H.Yv]; omega
   ·rw[H.Zp,H.Yv,H.Ze,if_neg oM,H.D5,if_neg oM,H.Zp,if_neg oM]; exact hp
   ·exact tZ h1
   ·exact tX
   ·simp only[H.Ze,H.Yv]; omega
   ·exact tX
   ·rw[H.Zp,H.Yv,H.Ze,if_pos rfl,List.replicate_succ']; rfl
   ·rintro x ds' ts' h' ⟨e1,e2,e3,e4,e5,e6,e7,e8⟩
    simp only[H.Ze,H.Yv] at e3
    refine⟨e1,e2,oM,fun m hm=>?_,?_,?_,?_,e8⟩
    ·rw[e4 m hm]
     rw[H.Zp,H.Yv,H.Ze,if_neg oM,H.D5,if_neg oM,H.Zp,if_neg oM]
    ·rw[e5]; simp (decide:=true) only [Zo,reduceIte]
    ·rw[e6]; simp (decide:=true) only [Zo,reduceIte]
    ·rw[e7]; simp (decide:=true) only [Zo,reduceIte]
omit Hh in
theorem Q0:J9 K 106=some ti87:=kR
omit Hh in
theorem Z86:ti87.bytes=256:=rfl
omit Hh in
theorem Ybh:ti87.zero.cells=Xt:=rfl
omit Hh in
theorem Z1x (h:Hq) (S D Hd I:List C) (sz ino:Nat) (L:List (List C)) (hL:L.length<=4000):U7 h (some ti87) (some L.length) (some L.length)=some (.w (.c (.slice h.next 0 L.length 256)),h.new (.row 256 (Dg S D Hd I sz ino L 0) false)):=by
 have e:List.replicate L.length Xt=Dg S D Hd I sz ino L 0:=by
  refine List.ext_getElem (by simp [Dg]) fun t h1 h2=>?_
  simp [Dg]
 have b1:Nat.ble L.length L.length=true:=R7 (Nat.le_refl _)
 have b2:Nat.ble (L.length * 256) 1099511627776=true:=R7 oM
 have b3:Nat.ble L.length 1099511627776=true:=R7 oM
 simp only[U7,Z86,b1,b2,b3,Bool.and_self,cond_true,Uo,Ybh,Gu,e]
def Zhp (dn ino gr:Nat):List (List C):=[.int .i64 dn,.int .i64 ((ino - 1:Nat):Int),.int .i64 1] :: List.replicate (gr - 1) (Zbs dn ino)
theorem Z97 {gr sz ino jr:Nat} (F:Fine gr sz ino jr) (G:RG gr sz ino jr) (S D Hd I:List C) (Sp:Special Tryz.prog gr sz ino jr (Eb gr sz ino jr) (Zhp (Nj (Eb gr sz ino jr)) ino gr) S D Hd I) (hfl:(Dg S D Hd I sz ino (Eb gr sz ino jr) (Eb gr sz ino jr).length).all (fun l=>l.all C.flat)=true) (h:Hq) :
  Zb 47 [.g (Jw gr sz ino jr)] h (.tup [.c (.slice h.next 0 (Eb gr sz ino jr).length 256),.c (.int .i64 0)]) (h.new (.row 256 (Dg S D Hd I sz ino (Eb gr sz ino jr) (Eb gr sz ino jr).length) false)):=by
 refine Zx.tidy ⟨_,Tryz.func47,kR,of_decide_eq_true kR⟩ fun tidy=>?_
 suffices hs:Z9 159 none (q47 []) [] (Ug 0 [.g (Jw gr sz ino jr)] .nil) h fun x ds ts h1=>∃ n,h.next<=n/\n<h1.next/\h1.get n=some (.row 256 (Dg S D Hd I sz ino (Eb gr sz ino jr) (Eb gr sz ino jr).length) false)/\(∀ n,n<h.next->h1.get n=h.get n)/\leave K Tryz.f47 (some (.at x ds ts h1))=some (.val (.tup [.c (.slice n 0 (Eb gr sz ino jr).length 256),.c (.int .i64 0)]) h1) by
  obtain⟨x,ds,ts,h1,g,n,e1,e2,e3,e4,e5⟩:=hs
  exact (Zx.body fits Hh kR kR kR kR rfl g e5).row e1 e3 rfl hfl e2 e4
 have hlen:(Eb gr sz ino jr).length<=4000:=by
  rw[Eb,List.length_append,Z6b,Zqj F.fit]
  have:=F.all
  omega
 obtain⟨L,hL⟩:=xzE (Eb gr sz ino jr)
 have hT:Zr8 L:=hL ▸ Zfr gr sz ino jr
 have e0:Zg (Ug 0 [.g (Jw gr sz ino jr)] .nil) 0=.w (.g (Jw gr sz ino jr)):=by rw[U2]; rfl
 have lg:(Jw gr sz ino jr).length=4:=rfl
 have rg:Zm 4 [Jw gr sz ino jr] 0 4=some (Jw gr sz ino jr):=rfl
 have nslice:Zeb (.slice none 0 0)=some (.w (.c .snil)):=rfl
 have e1:Tryz.f47.results.toList=[.tmp 2,.tmp 3]:=rfl
 have mk:=G.may (h.new (.row 4 [Jw gr sz ino jr] false))
 have ak:=G.all (h.new (.row 4 [Jw gr sz ino jr] false))
 rw[hL] at ak Sp hlen ⊢
 have ms:=Z1x ((h.new (.row 4 [Jw gr sz ino jr] false)).new (.row 4 L false)) S D Hd I sz ino L hlen
 iterate 4 (first|(apply gO fits Hh Za; · simp (decide:=true) only [go_sem,Zy,H.get_put,H.Zp,Zh,Z8,reduceIte,Nat.reduceAdd,Nat.reduceMul,e0,lg,rg,nslice,ms,Yt,Gw,Lp,Ld,gW,Zr,Jl,Sm,Q0]<;>rfl)|apply gS)
 (apply gO fits Hh (Zj Za mk); · simp (decide:=true) only [go_sem,Zy,H.get_put,H.Zp,Zh,Z8,reduceIte,Nat.reduceAdd,Nat.reduceMul,Z7,e0,lg,rg,nslice,ms,Yt,Gw,Lp,Ld,gW,Zr,Jl,Sm,Q0]<;>rfl)
 iterate 3 (first|(apply Goes.Zi; · simp (decide:=true) only [go_sem,Zy,H.get_put,H.Zp,Zh,Z8,reduceIte,Nat.reduceAdd,Nat.reduceMul,Z4,Ya,asC,Zo,Yy,Yo,e0,lg,rg,nslice,ms,Yt,Gw,Lp,Ld,gW,Zr,Jl,Sm,Q0]<;>rfl)|apply gS)
 (apply gO fits Hh (Zj Za ak); · simp (decide:=true) only [go_sem,Zy,H.get_put,H.Zp,Zh,Z8,reduceIte,Nat.reduceAdd,Nat.reduceMul,Z7,e0,lg,rg,nslice,ms,Yt,Gw,Lp,Ld,gW,Zr,Jl,Sm,Q0]<;>rfl)
 iterate 8 (first|(apply gO fits Hh Za; · simp (decide:=true) only [go_sem,Zy,H.get_put,H.Zp,Zh,Z8,reduceIte,Nat.reduceAdd,Nat.reduceMul,e0,lg,rg,nslice,ms,Yt,Gw,Lp,Ld,gW,Zr,Jl,Sm,Q0]<;>rfl)|apply gS)
 show Z9 159 none (q47 [1,1,1,1,1,0,1,2]) _ _ _ _
 refine (mk0 Hh F G h.next (h.next+3) oM gr 0 _ _ oM ?_ ?_ ?_ ?_ (.inl ⟨rfl,?_⟩)).mono ?_
 ·simp only[H.Ze]; omega
 ·simp only[H.Zp,H.Ze]
  rw[if_neg oM,if_neg oM,if_pos trivial]
 ·exact tY
 ·exact tX
 ·exact tY
 rintro x ds' ts1 h1 ⟨rfl,rfl,up1,kp1,a1,a4,a5,nD,d1,d2,d3,d4⟩
 simp only[H.Ze] at up1
 have f1:Zg ts1 1=.w (.c (.ptr h.next 0)):=by rw[a1]; simp (decide:=true) only [Zo,reduceIte]
 have f4:Zg ts1 4=.w (.c (.slice (h.next+1) 0 L.length 4)):=by rw[a4]; simp (decide:=true) only [Zo,reduceIte,H.Ze]
 have f5:Zg ts1 5=.w (.c (.slice (h.next+2) 0 L.length 256)):=by rw[a5]; simp (decide:=true) only [Zo,reduceIte,H.Ze]
 have hp1:h1.get h.next=some (.row 4 [[.int .i64 gr,.int .i64 sz,.int .i64 ino,.int .i64 jr]] false):=by
  rw[kp1 _ oM]
  simp only[H.Zp,H.Ze]
  rw[if_neg oM,if_neg oM,if_pos trivial]
  rfl
 have hA1:h1.get (h.next+1)=some (.row 4 L false):=by
  rw[kp1 _ oM]
  simp only[H.Zp,H.Ze]
  rw[if_neg oM,if_pos trivial]
 have hO1:h1.get (h.next+2)=some (.row 256 (Dg S D Hd I sz ino L 0) false):=by
  rw[kp1 _ oM]
  simp only[H.Zp,H.Ze]
  rw[if_pos trivial]
 obtain⟨g1,g2,g3,g4,g5,g6,g7,g8,g9,g10,g11⟩:=id F
 rw[hL] at d4
 obtain⟨gr',hgr⟩:∃ gr',gr=gr'+1:=⟨gr - 1,oM⟩
 have w1:Jm .i64 ((ino:Int) - 1)=.int .i64 ((ino - 1:Nat):Int):=by rw[wrap64 oM oM]; congr 1; omega
 have n0:Om (some (.int .i64 0))=some 0:=rfl
 have b0:Nat.blt 0 gr=true:=Gv oM
 have wr1:Z0 3 (List.replicate gr (Zbs (Nj L) ino)) 1 [.int .i64 ((ino - 1:Nat):Int)]=some ([.int .i64 (Nj L:Nat),.int .i64 ((ino - 1:Nat):Int),.int .i64 0] :: List.replicate (gr - 1) (Zbs (Nj L) ino)):=by
  rw[hgr,List.replicate_succ,Nat.add_sub_cancel]
  rfl
 have wr2:Z0 3 ([.int .i64 (Nj L:Nat),.int .i64 ((ino - 1:Nat):Int),.int .i64 0] :: List.replicate (gr - 1) (Zbs (Nj L) ino)) 2 [.int .i64 1]=some (Zhp (Nj L) ino gr):=rfl
 iterate 8 (first|(apply gO fits Hh Za; · simp (decide:=true) only [go_sem,Zy,H.get_put,H.Zp,Zh,Z8,reduceIte,Nat.reduceAdd,Nat.reduceMul,f1,d3,hp1,d4,w1,n0,b0,wr1,wr2,Vx,geo2,O4,Ff,Ey,cW,Zwq,Z9g,Ya5,Z2y,Z9n,Z9o,Nat.zero_add,Nat.zero_mul,Nat.beq_refl]<;>rfl)|apply gS)
 show Z9 159 none (q47 [1,1,1,1,1,1,1,1,0,1,2]) _ _ _ _
 refine (mk2 Hh F h.next (h.next+1) (h.next+2) nD oM oM oM L (Zhp (Nj L) ino gr) S D Hd I Sp hT hlen L.length 0 _ _ oM ?_ ?_ ?_ ?_ ?_ ?_ ?_ ?_ ?_ ?_).mono ?_
 ·rw[H.get_put,if_neg oM,H.get_put,if_neg oM]; exact hp1
 ·rw[H.get_put,if_neg oM,H.get_put,if_neg oM]; exact hA1
 ·rw[H.get_put,if_pos rfl]
 ·rw[H.get_put,if_neg oM,H.get_put,if_neg oM]; exact hO1
 ·exact tZ f1
 ·exact tZ f4
 ·exact tZ f5
 ·exact tZ d3
 ·exact tX
 ·simp only[H.Zf]; omega
 rintro x ds' ts2 h2 ⟨rfl,rfl,up2,hO2,kp2,k5⟩
 simp only[H.Zf] at up2 kp2
 iterate 3 (first|(apply gO fits Hh Za; · simp (decide:=true) only [go_sem,Zy,H.get_put,H.Zp,Zh,Z8,reduceIte,Nat.reduceAdd,Nat.reduceMul,k5]<;>rfl)|apply gS)
 refine⟨h.next+2,oM,oM,hO2,fun m hm=>?_,?_⟩
 ·rw[kp2 m oM oM,H.get_put,if_neg oM,H.get_put,if_neg oM,kp1 m oM]
  simp only[H.Zp,H.Ze]
  rw[if_neg oM,if_neg oM,if_neg oM]
 ·simp (decide:=true) only [Er,Jg,finish,e1,Jb,evalW,Ya,asW,Zo,reduceIte,Ue]
end
end
end Go.Proofs.YtmanipmhebgdbaaGreatDoor
