/- A geometry that may be. -/
import Derived.Test.YtdkcjalmhdofcaaGreatDoorTy
import Derived.Test.YtdkcjalmhdofcaaGreatDoorEvC
set_option linter.unusedSimpArgs false
set_option linter.unusedVariables false
set_option linter.unusedSectionVars false
set_option maxRecDepth 100000
namespace Go.Proofs.YtdkcjalmhdofcaaGreatDoor
open Go.Ev
structure Fine (gr sz ino jr:Nat):Prop where
 gr1:1≤gr
 gr4:gr≤4
 sz1:16≤sz
 sz2:sz≤512
 ino1:4≤ino
 ino2:ino≤64
 ino4:ino % 4=0
 jr1:40≤jr
 jr2:jr≤256
 fit:3+ino / 4≤sz
 all:2+jr+gr * sz≤2048
def Yo (gr sz ino jr:Nat):List C:=[.int .i64 gr,.int .i64 sz,.int .i64 ino,.int .i64 jr]
theorem Mx {j k b:Nat} (h:j<k):j * b+b≤k * b:=by
 have:=Nat.mul_le_mul_right b h
 rwa [Nat.succ_mul] at this
end Go.Proofs.YtdkcjalmhdofcaaGreatDoor
set_option maxRecDepth 100000
namespace Go.Proofs.YtdkcjalmhdofcaaGreatDoor
open Go.Ev
theorem Uh:K.types.get 24=some ti24:=by kernel_rfl
theorem G8:ti24.size=4:=rfl
theorem Gz:ti24.agg=true:=rfl
theorem X3:Zp K 24 0=some (0,ti3):=by kernel_rfl
theorem Zah:Zp K 24 1=some (1,ti3):=by kernel_rfl
theorem Ep:Zp K 24 2=some (2,ti3):=by kernel_rfl
theorem Zup:Zp K 24 3=some (3,ti3):=by kernel_rfl
theorem geo0 (a b c d:C):read1 4 [[a,b,c,d]] 0=some a:=rfl
theorem geo1 (a b c d:C):read1 4 [[a,b,c,d]] 1=some b:=rfl
theorem geo2 (a b c d:C):read1 4 [[a,b,c,d]] 2=some c:=rfl
theorem geo3 (a b c d:C):read1 4 [[a,b,c,d]] 3=some d:=rfl
noncomputable def q49 (p:List Nat):Code:=piece p (Jz Tryz.f49)
noncomputable def q50 (p:List Nat):Code:=piece p (Jz Tryz.f50)
theorem Znq:q50 [1,1,1,0,1,2]=.loop (q50 [1,1,1,0,1,2,2]):=by kernel_rfl
theorem Ziv:q50 [1,1,1,1,1,0,1,2]=.loop (q50 [1,1,1,1,1,0,1,2,2]):=by kernel_rfl
theorem Xp:q50 [1,1,1,1,1,0,1,2,2,1,0,2,1,0,1]=.block 4 (q50 [1,1,1,1,1,0,1,2,2,1,0,2,1,0,1,2]):=by kernel_rfl
theorem Vg:q50 [1,1,1,1,1,0,1,2,2,1,0,2,1,0,1,2]=.loop (q50 [1,1,1,1,1,0,1,2,2,1,0,2,1,0,1,2,2]):=by kernel_rfl
theorem Xq:q50 [1,1,1,1,1,0,1,2,2,1,0,2,1,1,1]=.block 6 (q50 [1,1,1,1,1,0,1,2,2,1,0,2,1,1,1,2]):=by kernel_rfl
theorem Vb:q50 [1,1,1,1,1,0,1,2,2,1,0,2,1,1,1,2]=.loop (q50 [1,1,1,1,1,0,1,2,2,1,0,2,1,1,1,2,2]):=by kernel_rfl
section
variable (Hh:Hearts K Tryz.prog)
include Hh
theorem Zz4 {gr sz ino jr:Nat} (F:Fine gr sz ino jr) (h:Go.Ev.H):Zg K Tryz.prog 49 [.g (Yo gr sz ino jr)] h (.w (.c (.bool true))) h:=by
 refine Zg.tidy ⟨_,Tryz.func49,by kernel_rfl,of_decide_eq_true (by kernel_rfl)⟩ fun tidy=>?_
 suffices hs:Goes K Tryz.prog 66 none (q49 []) [] (Jm 0 [.g (Yo gr sz ino jr)] .nil) h fun x ds ts h1=>(∀ n,n<h.next→h1.get n=h.get n)∧leave K Tryz.f49 (some (.at x ds ts h1))=some (.val (.w (.c (.bool true))) h1) by
  obtain⟨x,ds,ts,h1,g,e2,e3⟩:=hs
  exact (Zg.body fits Hh (by kernel_rfl) (by kernel_rfl) (by kernel_rfl) (by kernel_rfl) rfl g e3).quiet rfl e2
 obtain⟨g1,g2,g3,g4,g5,g6,g7,g8,g9,g10,g11⟩:=F
 have e0:Zm (Jm 0 [.g (Yo gr sz ino jr)] .nil) 0=.w (.g [.int .i64 gr,.int .i64 sz,.int .i64 ino,.int .i64 jr]):=by rw[Y8]; rfl
 have c1:decide ((gr:Int)<1)=false:=decide_eq_false (by omega)
 have c2:decide ((gr:Int) > 4)=false:=decide_eq_false (by omega)
 have c3:decide ((sz:Int)<16)=false:=decide_eq_false (by omega)
 have c4:decide ((sz:Int) > 512)=false:=decide_eq_false (by omega)
 have c5:decide ((ino:Int)<4)=false:=decide_eq_false (by omega)
 have c6:decide ((ino:Int) > 64)=false:=decide_eq_false (by omega)
 have c7:F6 .i64 (ino:Int) 4=some (.int .i64 0):=by
  show some (C.int .i64 ((ino:Int).tmod 4))=_
  rw[show (ino:Int).tmod 4=((ino % 4:Nat):Int) from rfl,g7]
  rfl
 have c8:decide ((jr:Int)<40)=false:=decide_eq_false (by omega)
 have c9:decide ((jr:Int) > 256)=false:=decide_eq_false (by omega)
 have q1:Fe .i64 (ino:Int) 4=some (.int .i64 ((ino / 4:Nat):Int)):=by
  show some (Yn .i64 ((ino:Int).tdiv 4))=_
  rw[show (ino:Int).tdiv 4=((ino / 4:Nat):Int) from rfl,wrap64 (by omega) (by omega)]
 have w1:Yn .i64 (3+((ino / 4:Nat):Int))=.int .i64 ((3+ino / 4:Nat):Int):=by rw[wrap64 (by omega) (by omega)]; congr 1
 have c10:decide ((sz:Int) ≥ ((3+ino / 4:Nat):Int))=true:=decide_eq_true (by omega)
 have w2:Yn .i64 (2+(jr:Int))=.int .i64 ((2+jr:Nat):Int):=by rw[wrap64 (by omega) (by omega)]; congr 1
 have hm:gr * sz≤2048:=by omega
 have w3:Yn .i64 ((gr:Int) * (sz:Int))=.int .i64 ((gr * sz:Nat):Int):=by
  have e:(gr:Int) * (sz:Int)=((gr * sz:Nat):Int):=by simp
  rw[e,wrap64 (by omega) (by omega)]
 have w4:Yn .i64 (((2+jr:Nat):Int)+((gr * sz:Nat):Int))=.int .i64 ((2+jr+gr * sz:Nat):Int):=by rw[wrap64 (by omega) (by omega)]; congr 1
 have c11:decide (((2+jr+gr * sz:Nat):Int)≤2048)=true:=decide_eq_true (by omega)
 have e1:Tryz.f49.results.toList=[.tmp 2]:=rfl
 have z0:((0:Int) != 0)=false:=rfl
 iterate 10 (first|apply Goes.seq|apply Goes.skip|apply Goes.ret|((first|apply Goes.Zo|apply Goes.ops2 fits Hh Zb); · simp (decide:=true) only [go_sem,Zr,H.get_put,H.Zf,Za,Zz,reduceIte,Nat.reduceAdd,Nat.reduceMul,Zx,Z0,asC,Ze,Ya,Z7,e0,c1,c2,c3,c4,c5,c6,c7,c8,c9,q1,w1,c10,w2,w3,w4,c11,z0,Z6,X3,Zah,Ep,Zup,geo0,geo1,geo2,geo3,Y9,U0,Uy,cW,Nat.zero_add]<;>rfl))
 refine⟨fun n hn=>?_,?_⟩
 ·rw[H.Zf,if_neg (by omega)]
 ·simp (decide:=true) only [U1,Y3,finish,e1,Y1,evalW,Z0,asW,Ze,reduceIte,J5]
end
def thing (k gr at' ino:Int):List C:=[.int .u8 k,.int .i64 gr,.int .i64 at',.int .i64 ino]
theorem Jb:K.types.get 125=some ti125:=by kernel_rfl
theorem Lh:Yz K 120=some ti125:=by kernel_rfl
theorem Jt:ti125.size=4:=rfl
theorem Zwd:ti125.bytes=32:=rfl
theorem bld1 (k:Int):Z9 K 125 (some [(0,.c (.int .u8 k))])=some (.g [.int .u8 k,.int .i64 0,.int .i64 0,.int .i64 0]):=by kernel_rfl
theorem bld3 (k a:Int):Z9 K 125 (some [(0,.c (.int .u8 k)),(2,.c (.int .i64 a))])=some (.g [.int .u8 k,.int .i64 0,.int .i64 a,.int .i64 0]):=by kernel_rfl
theorem bld4 (k a:Int):Z9 K 125 (some [(0,.c (.int .u8 k)),(1,.c (.int .i64 a))])=some (.g [.int .u8 k,.int .i64 a,.int .i64 0,.int .i64 0]):=by kernel_rfl
theorem bld5 (k a b:Int):Z9 K 125 (some [(0,.c (.int .u8 k)),(1,.c (.int .i64 a)),(2,.c (.int .i64 b))])=some (.g [.int .u8 k,.int .i64 a,.int .i64 b,.int .i64 0]):=by kernel_rfl
theorem bld6 (k a b c:Int):Z9 K 125 (some [(0,.c (.int .u8 k)),(1,.c (.int .i64 a)),(2,.c (.int .i64 b)),(3,.c (.int .i64 c))])=some (.g [.int .u8 k,.int .i64 a,.int .i64 b,.int .i64 c]):=by kernel_rfl
theorem bs1 (h:Go.Ev.H) (a b c d:C):Yy h 1 (some ti125) (some [(0,.g [a,b,c,d])])=some (.w (.c (.slice h.next 0 1 4)),h.new (.row 4 [[a,b,c,d]] false)):=rfl
theorem bs2 (h:Go.Ev.H) (a b c d a' b' c' d':C):Yy h 2 (some ti125) (some [(0,.g [a,b,c,d]),(1,.g [a',b',c',d'])])=some (.w (.c (.slice h.next 0 2 4)),h.new (.row 4 [[a,b,c,d],[a',b',c',d']] false)):=rfl
theorem Qf (n off len sz:Nat):Y2 K 120 (.slice n off len sz)=true:=by unfold Y2; rw[show K.types.get 120=some ti120 by kernel_rfl]; rfl
structure AllSt (p:Nat) (h0:Go.Ev.H) (L:List (List C)) (ts:Zy) (h:Go.Ev.H):Prop where
 p1:Zm ts 1=.w (.c (.ptr p 0))
 sl:∃ n,Zm ts 3=.w (.c (.slice n 0 L.length 4))∧h.get n=some (.row 4 L false)∧p<n∧n<h.next
 up:h0.next≤h.next
 keep:∀ m,m≤p→h.get m=h0.get m
theorem AllSt.grow {p n:Nat} {h0 h:Go.Ev.H} {L M:List (List C)} {ts ts':Zy} (s:AllSt p h0 L ts h) (hn:p<n) (hlt:n<h.next) (e1:Zm ts' 1=.w (.c (.ptr p 0))) (e3:Zm ts' 3=.w (.c (.slice (h.next+1) 0 (L.length+M.length) 4))):AllSt p h0 (L++M) ts' (((h.new (.row 4 M false)).del n).new (.row 4 (L++M) false)):=by
 refine⟨e1,⟨h.next+1,by rw[e3,List.length_append],?_,by omega,?_⟩,?_,fun m hm=>?_⟩
 ·rw[H.Zf,H.Zi,H.Zc,if_pos rfl]
 ·rw[H.Zc,H.Zi,H.Zc]; omega
 ·rw[H.Zc,H.Zi,H.Zc]; have:=s.up; omega
 ·rw[H.Zf,H.Zi,H.Zc,if_neg (by omega),H.Zk,if_neg (by omega),H.Zf,if_neg (by omega)]
  exact s.keep m hm
theorem AllSt.same {p:Nat} {h0 h:Go.Ev.H} {L:List (List C)} {ts ts':Zy} (s:AllSt p h0 L ts h) (e1:Zm ts' 1=Zm ts 1) (e3:Zm ts' 3=Zm ts 3):AllSt p h0 L ts' h :=
 ⟨by rw[e1]; exact s.p1,by rw[e3]; exact s.sl,s.up,s.keep⟩
theorem grow1 {h:Go.Ev.H} {n:Nat} {L:List (List C)} (x:List C) (ho:h.get n=some (.row 4 L false)) (hn:n<h.next) (hl:L.length≤4000) :
  Jj (h.new (.row 4 [x] false)) (some ti125) (.slice n 0 L.length 4) (.slice h.next 0 1 4)=some (.w (.c (.slice (h.next+1) 0 (L.length+1) 4)),((h.new (.row 4 [x] false)).del n).new (.row 4 (L++[x]) false)) :=
 Ny (M:=[x]) Jt (by rw[H.Zf,if_neg (by omega)]; exact ho) (by rw[H.Zf,if_pos rfl]) (by simp) (by rw[Zwd]; show (L.length+1) * 32≤_; omega) (by show L.length+1≤_; omega)
theorem grow2 {h:Go.Ev.H} {n:Nat} {L:List (List C)} (x y:List C) (ho:h.get n=some (.row 4 L false)) (hn:n<h.next) (hl:L.length≤4000) :
  Jj (h.new (.row 4 [x,y] false)) (some ti125) (.slice n 0 L.length 4) (.slice h.next 0 2 4)=some (.w (.c (.slice (h.next+1) 0 (L.length+2) 4)),((h.new (.row 4 [x,y] false)).del n).new (.row 4 (L++[x,y]) false)) :=
 Ny (M:=[x,y]) Jt (by rw[H.Zf,if_neg (by omega)]; exact ho) (by rw[H.Zf,if_pos rfl]) (by simp) (by rw[Zwd]; show (L.length+2) * 32≤_; omega) (by show L.length+2≤_; omega)
def jrL (i:Nat):List (List C):=[thing 1 0 0 0,thing 2 0 0 0]++(List.range i).map fun (j:Nat)=>thing 3 0 j 0
def inL (a ino c:Nat):List (List C):=(List.range c).map fun (k:Nat)=>thing 6 a ((2+k:Nat):Int) ((1+a * ino+4 * k:Nat):Int)
def daL (a ino d:Nat):List (List C):=(List.range d).map fun (k:Nat)=>thing 7 a ((2+ino / 4+k:Nat):Int) 0
def grL (sz ino a:Nat):List (List C):=[thing 4 a 0 0,thing 5 a 1 0]++inL a ino (ino / 4)++daL a ino (sz - (2+ino / 4))
def O5 (sz ino a:Nat):List (List C):=(List.range a).flatMap (grL sz ino)
def Uw (gr sz ino jr:Nat):List (List C):=jrL jr++O5 sz ino gr
theorem Zc8 (i:Nat):(jrL i).length=2+i:=by simp [jrL]; omega
theorem Zu0 (i:Nat):jrL (i+1)=jrL i++[thing 3 0 i 0]:=by simp [jrL,List.range_succ]
theorem Zjw (a ino c:Nat):(inL a ino c).length=c:=by simp [inL]
theorem Zt5 (a ino c:Nat):inL a ino (c+1)=inL a ino c++[thing 6 a ((2+c:Nat):Int) ((1+a * ino+4 * c:Nat):Int)]:=by simp [inL,List.range_succ]
theorem Zpg (a ino d:Nat):(daL a ino d).length=d:=by simp [daL]
theorem Zvc (a ino d:Nat):daL a ino (d+1)=daL a ino d++[thing 7 a ((2+ino / 4+d:Nat):Int) 0]:=by simp [daL,List.range_succ]
theorem Zzs {sz ino:Nat} (h:3+ino / 4≤sz) (a:Nat):(grL sz ino a).length=sz:=by simp [grL,Zjw,Zpg]; omega
theorem Qo (sz ino a:Nat):O5 sz ino (a+1)=O5 sz ino a++grL sz ino a:=by simp [O5,List.range_succ]
theorem Tm {sz ino:Nat} (h:3+ino / 4≤sz) (a:Nat):(O5 sz ino a).length=a * sz:=by
 induction a with
 | zero=>simp [O5]
 | succ a ih=>rw[Qo,List.length_append,ih,Zzs h,Nat.succ_mul]
section
variable (Hh:Hearts K Tryz.prog)
include Hh
theorem all1 {gr sz ino jr:Nat} (F:Fine gr sz ino jr) (p:Nat) (h0:Go.Ev.H) (hp:h0.get p=some (.row 4 [Yo gr sz ino jr] false)):∀ (k i:Nat) (ts:Zy) (h:Go.Ev.H),i+k=jr→AllSt p h0 (jrL i) ts h→Zm ts 4=.w (.c (.int .i64 i)) →
  Goes K Tryz.prog 73 none (q50 [1,1,1,0,1,2]) [] ts h fun x ds' ts' h'=>x=.exit 0∧ds'=[]∧AllSt p h0 (jrL jr) ts' h':=by
 obtain⟨g1,g2,g3,g4,g5,g6,g7,g8,g9,g10,g11⟩:=F
 intro k
 induction k with
 | zero =>
  intro i ts h hi st h4
  have ei:i=jr:=by omega
  subst ei
  have hg:h.get p=some (.row 4 [[.int .i64 gr,.int .i64 sz,.int .i64 ino,.int .i64 i]] false):=(st.keep p (Nat.le_refl _)).trans hp
  have h1:=st.p1
  have c1:decide ((i:Int)<(i:Int))=false:=decide_eq_false (by omega)
  iterate 6 (first|apply Goes.seq|apply Goes.exit|apply Goes.loop|((first|apply Goes.Zo|apply Goes.ops2 fits Hh Zb); · simp (decide:=true) only [go_sem,Zr,H.get_put,H.Zf,Za,Zz,reduceIte,Nat.reduceAdd,Nat.reduceMul,Zx,Z0,asC,Ze,Ya,Z7,h4,h1,hg,c1,Zup,geo3,Y9,U0,Uy,cW,Nat.zero_add]<;>rfl))
  refine⟨rfl,rfl,st.same ?_ ?_⟩
  ·simp (decide:=true) only [Ze,reduceIte]
  ·simp (decide:=true) only [Ze,reduceIte]
 | succ k ih =>
  intro i ts h hi st h4
  have hg:h.get p=some (.row 4 [[.int .i64 gr,.int .i64 sz,.int .i64 ino,.int .i64 jr]] false):=(st.keep p (Nat.le_refl _)).trans hp
  have h1:=st.p1
  obtain⟨n,h3,hn,hpn,hlt⟩:=st.sl
  have c1:decide ((i:Int)<(jr:Int))=true:=decide_eq_true (by omega)
  have w1:Yn .i64 ((i:Int)+1)=.int .i64 ((i+1:Nat):Int):=by rw[wrap64 (by omega) (by omega)]; congr 1
  have ap:=grow1 (thing 3 0 i 0) hn hlt (by rw[Zc8]; omega)
  simp only[thing] at ap
  iterate 10 (first|apply Goes.seq|apply Goes.skip|apply Goes.block|apply Goes.loop|((first|apply Goes.Zo|apply Goes.ops2 fits Hh Zb); · simp (decide:=true) only [go_sem,Zr,H.get_put,H.Zf,Za,Zz,reduceIte,Nat.reduceAdd,Nat.reduceMul,Zx,Z0,asC,Ze,Ya,Z7,h4,h1,h3,hg,c1,w1,ap,Zup,geo3,Y9,U0,Uy,cW,Nat.zero_add,bld3,bs1,Lh,Qf,Zn]<;>rfl))
  show Goes K Tryz.prog 73 none (.loop (q50 [1,1,1,0,1,2,2])) _ _ _ _
  rw[←Znq]
  refine ih (i+1) _ _ (by omega) ?_ ?_
  ·rw[Zu0]
   refine st.grow hpn hlt ?_ ?_
   ·simp (decide:=true) only [Ze,reduceIte,h1]
   ·simp (decide:=true) only [Ze,reduceIte]
    rfl
  ·simp (decide:=true) only [Ze,reduceIte]
theorem all4 {gr sz ino jr:Nat} (F:Fine gr sz ino jr) (a:Nat) (ha:a<gr) (p:Nat) (h0:Go.Ev.H) (hp:h0.get p=some (.row 4 [Yo gr sz ino jr] false)) (B:List (List C)) (hB:B.length≤2060):∀ (k c:Nat) (ts:Zy) (h:Go.Ev.H),c+k=ino / 4→AllSt p h0 (B++inL a ino c) ts h→Zm ts 6=.w (.c (.int .i64 a))→Zm ts 7=.w (.c (.int .i64 ((4 * c:Nat):Int)))→Zm ts 5=.w (.c (.int .i64 ((1+a * ino+4 * c:Nat):Int))) →
  Goes K Tryz.prog 73 none (q50 [1,1,1,1,1,0,1,2,2,1,0,2,1,0,1,2]) [] ts h fun x ds' ts' h'=>x=.exit 4∧ds'=[]∧AllSt p h0 (B++inL a ino (ino / 4)) ts' h'∧Zm ts' 6=.w (.c (.int .i64 a))∧Zm ts' 5=.w (.c (.int .i64 ((1+(a+1) * ino:Nat):Int))):=by
 obtain⟨g1,g2,g3,g4,g5,g6,g7,g8,g9,g10,g11⟩:=F
 have ham:a * ino≤4 * 64:=Nat.mul_le_mul (by omega) (by omega)
 intro k
 induction k with
 | zero =>
  intro c ts h hc st h6 h7 h5
  have ec:c=ino / 4:=by omega
  subst ec
  have hg:h.get p=some (.row 4 [[.int .i64 gr,.int .i64 sz,.int .i64 ino,.int .i64 jr]] false):=(st.keep p (Nat.le_refl _)).trans hp
  have h1:=st.p1
  have c1:decide (((4 * (ino / 4):Nat):Int)<(ino:Int))=false:=decide_eq_false (by omega)
  iterate 6 (first|apply Goes.seq|apply Goes.exit|apply Goes.loop|((first|apply Goes.Zo|apply Goes.ops2 fits Hh Zb); · simp (decide:=true) only [go_sem,Zr,H.get_put,H.Zf,Za,Zz,reduceIte,Nat.reduceAdd,Nat.reduceMul,Zx,Z0,asC,Ze,Ya,Z7,h7,h1,hg,c1,Ep,geo2,Y9,U0,Uy,cW,Nat.zero_add]<;>rfl))
  refine⟨rfl,rfl,st.same ?_ ?_,?_,?_⟩
  ·simp (decide:=true) only [Ze,reduceIte]
  ·simp (decide:=true) only [Ze,reduceIte]
  ·simp (decide:=true) only [Ze,reduceIte,h6]
  ·simp (decide:=true) only [Ze,reduceIte,h5]
   have:1+a * ino+4 * (ino / 4)=1+(a+1) * ino:=by rw[Nat.add_mul,Nat.one_mul]; omega
   rw[this]
 | succ k ih =>
  intro c ts h hc st h6 h7 h5
  have hg:h.get p=some (.row 4 [[.int .i64 gr,.int .i64 sz,.int .i64 ino,.int .i64 jr]] false):=(st.keep p (Nat.le_refl _)).trans hp
  have h1:=st.p1
  obtain⟨n,h3,hn,hpn,hlt⟩:=st.sl
  have c1:decide (((4 * c:Nat):Int)<(ino:Int))=true:=decide_eq_true (by omega)
  have q1:Fe .i64 ((4 * c:Nat):Int) 4=some (.int .i64 (c:Int)):=by
   show some (Yn .i64 (((4 * c:Nat):Int).tdiv 4))=_
   rw[show ((4 * c:Nat):Int).tdiv 4=((4 * c / 4:Nat):Int) from rfl,show 4 * c / 4=c by omega,wrap64 (by omega) (by omega)]
  have w1:Yn .i64 (2+(c:Int))=.int .i64 ((2+c:Nat):Int):=by rw[wrap64 (by omega) (by omega)]; congr 1
  have w2:Yn .i64 (((1+a * ino+4 * c:Nat):Int)+4)=.int .i64 ((1+a * ino+4 * (c+1):Nat):Int):=by rw[wrap64 (by omega) (by omega)]; congr 1
  have w3:Yn .i64 (((4 * c:Nat):Int)+4)=.int .i64 ((4 * (c+1):Nat):Int):=by rw[wrap64 (by omega) (by omega)]; congr 1
  have ap:=grow1 (thing 6 a ((2+c:Nat):Int) ((1+a * ino+4 * c:Nat):Int)) hn hlt (by rw[List.length_append,Zjw]; omega)
  simp only[thing] at ap
  iterate 12 (first|apply Goes.seq|apply Goes.skip|apply Goes.block|apply Goes.loop|((first|apply Goes.Zo|apply Goes.ops2 fits Hh Zb); · simp (decide:=true) only [go_sem,Zr,H.get_put,H.Zf,Za,Zz,reduceIte,Nat.reduceAdd,Nat.reduceMul,Zx,Z0,asC,Ze,Ya,Z7,h7,h6,h5,h1,h3,hg,c1,q1,w1,w2,w3,ap,Ep,geo2,Y9,U0,Uy,cW,Nat.zero_add,bld6,bs1,Lh,Qf,Zn]<;>rfl))
  show Goes K Tryz.prog 73 none (.loop (q50 [1,1,1,1,1,0,1,2,2,1,0,2,1,0,1,2,2])) _ _ _ _
  rw[←Vg]
  refine ih (c+1) _ _ (by omega) ?_ ?_ ?_ ?_
  ·rw[Zt5,←List.append_assoc]
   refine st.grow hpn hlt ?_ ?_
   ·simp (decide:=true) only [Ze,reduceIte,h1]
   ·simp (decide:=true) only [Ze,reduceIte]
    rfl
  ·simp (decide:=true) only [Ze,reduceIte,h6]
  ·simp (decide:=true) only [Ze,reduceIte]
  ·simp (decide:=true) only [Ze,reduceIte]
theorem all6 {gr sz ino jr:Nat} (F:Fine gr sz ino jr) (a:Nat) (ha:a<gr) (p:Nat) (h0:Go.Ev.H) (hp:h0.get p=some (.row 4 [Yo gr sz ino jr] false)) (B:List (List C)) (hB:B.length≤2100):∀ (k d:Nat) (ts:Zy) (h:Go.Ev.H),2+ino / 4+d+k=sz→AllSt p h0 (B++daL a ino d) ts h→Zm ts 6=.w (.c (.int .i64 a))→Zm ts 8=.w (.c (.int .i64 ((2+ino / 4+d:Nat):Int))) →
  Goes K Tryz.prog 73 none (q50 [1,1,1,1,1,0,1,2,2,1,0,2,1,1,1,2]) [] ts h fun x ds' ts' h'=>x=.exit 6∧ds'=[]∧AllSt p h0 (B++daL a ino (sz - (2+ino / 4))) ts' h'∧Zm ts' 6=.w (.c (.int .i64 a))∧Zm ts' 5=Zm ts 5:=by
 obtain⟨g1,g2,g3,g4,g5,g6,g7,g8,g9,g10,g11⟩:=F
 intro k
 induction k with
 | zero =>
  intro d ts h hd st h6 h8
  have ed:d=sz - (2+ino / 4):=by omega
  subst ed
  have hg:h.get p=some (.row 4 [[.int .i64 gr,.int .i64 sz,.int .i64 ino,.int .i64 jr]] false):=(st.keep p (Nat.le_refl _)).trans hp
  have h1:=st.p1
  have c1:decide (((2+ino / 4+(sz - (2+ino / 4)):Nat):Int)<(sz:Int))=false:=decide_eq_false (by omega)
  iterate 6 (first|apply Goes.seq|apply Goes.exit|apply Goes.loop|((first|apply Goes.Zo|apply Goes.ops2 fits Hh Zb); · simp (decide:=true) only [go_sem,Zr,H.get_put,H.Zf,Za,Zz,reduceIte,Nat.reduceAdd,Nat.reduceMul,Zx,Z0,asC,Ze,Ya,Z7,h8,h1,hg,c1,Zah,geo1,Y9,U0,Uy,cW,Nat.zero_add]<;>rfl))
  refine⟨rfl,rfl,st.same ?_ ?_,?_,?_⟩
  ·simp (decide:=true) only [Ze,reduceIte]
  ·simp (decide:=true) only [Ze,reduceIte]
  ·simp (decide:=true) only [Ze,reduceIte,h6]
  ·simp (decide:=true) only [Ze,reduceIte]
 | succ k ih =>
  intro d ts h hd st h6 h8
  have hg:h.get p=some (.row 4 [[.int .i64 gr,.int .i64 sz,.int .i64 ino,.int .i64 jr]] false):=(st.keep p (Nat.le_refl _)).trans hp
  have h1:=st.p1
  obtain⟨n,h3,hn,hpn,hlt⟩:=st.sl
  have c1:decide (((2+ino / 4+d:Nat):Int)<(sz:Int))=true:=decide_eq_true (by omega)
  have w1:Yn .i64 (((2+ino / 4+d:Nat):Int)+1)=.int .i64 ((2+ino / 4+(d+1):Nat):Int):=by rw[wrap64 (by omega) (by omega)]; congr 1
  have ap:=grow1 (thing 7 a ((2+ino / 4+d:Nat):Int) 0) hn hlt (by rw[List.length_append,Zpg]; omega)
  simp only[thing] at ap
  iterate 10 (first|apply Goes.seq|apply Goes.skip|apply Goes.block|apply Goes.loop|((first|apply Goes.Zo|apply Goes.ops2 fits Hh Zb); · simp (decide:=true) only [go_sem,Zr,H.get_put,H.Zf,Za,Zz,reduceIte,Nat.reduceAdd,Nat.reduceMul,Zx,Z0,asC,Ze,Ya,Z7,h8,h6,h1,h3,hg,c1,w1,ap,Zah,geo1,Y9,U0,Uy,cW,Nat.zero_add,bld5,bs1,Lh,Qf,Zn]<;>rfl))
  show Goes K Tryz.prog 73 none (.loop (q50 [1,1,1,1,1,0,1,2,2,1,0,2,1,1,1,2,2])) _ _ _ _
  rw[←Vb]
  refine (ih (d+1) _ _ (by omega) ?_ ?_ ?_).mono ?_
  ·rw[Zvc,←List.append_assoc]
   refine st.grow hpn hlt ?_ ?_
   ·simp (decide:=true) only [Ze,reduceIte,h1]
   ·simp (decide:=true) only [Ze,reduceIte]
    rfl
  ·simp (decide:=true) only [Ze,reduceIte,h6]
  ·simp (decide:=true) only [Ze,reduceIte]
  ·rintro x ds' ts' h' ⟨e1,e2,e3,e4,e5⟩
   refine⟨e1,e2,e3,e4,?_⟩
   rw[e5]
   simp (decide:=true) only [Ze,reduceIte]
theorem all2 {gr sz ino jr:Nat} (F:Fine gr sz ino jr) (p:Nat) (h0:Go.Ev.H) (hp:h0.get p=some (.row 4 [Yo gr sz ino jr] false)):∀ (k a:Nat) (ts:Zy) (h:Go.Ev.H),a+k=gr→AllSt p h0 (jrL jr++O5 sz ino a) ts h→Zm ts 6=.w (.c (.int .i64 a))→Zm ts 5=.w (.c (.int .i64 ((1+a * ino:Nat):Int))) →
  Goes K Tryz.prog 73 none (q50 [1,1,1,1,1,0,1,2]) [] ts h fun x ds' ts' h'=>x=.exit 2∧ds'=[]∧AllSt p h0 (Uw gr sz ino jr) ts' h':=by
 have F':=F
 obtain⟨g1,g2,g3,g4,g5,g6,g7,g8,g9,g10,g11⟩:=F
 intro k
 induction k with
 | zero =>
  intro a ts h ha st h6 h5
  have ea:a=gr:=by omega
  subst ea
  have hg:h.get p=some (.row 4 [[.int .i64 a,.int .i64 sz,.int .i64 ino,.int .i64 jr]] false):=(st.keep p (Nat.le_refl _)).trans hp
  have h1:=st.p1
  have c1:decide ((a:Int)<(a:Int))=false:=decide_eq_false (by omega)
  iterate 6 (first|apply Goes.seq|apply Goes.exit|apply Goes.loop|((first|apply Goes.Zo|apply Goes.ops2 fits Hh Zb); · simp (decide:=true) only [go_sem,Zr,H.get_put,H.Zf,Za,Zz,reduceIte,Nat.reduceAdd,Nat.reduceMul,Zx,Z0,asC,Ze,Ya,Z7,h6,h1,hg,c1,X3,geo0,Y9,U0,Uy,cW,Nat.zero_add]<;>rfl))
  refine⟨rfl,rfl,st.same ?_ ?_⟩
  ·simp (decide:=true) only [Ze,reduceIte]
  ·simp (decide:=true) only [Ze,reduceIte]
 | succ k ih =>
  intro a ts h ha st h6 h5
  have hm:a * sz≤gr * sz:=Nat.mul_le_mul (by omega) (Nat.le_refl _)
  have hm2:(a+1) * sz≤gr * sz:=Nat.mul_le_mul (by omega) (Nat.le_refl _)
  rw[Nat.succ_mul] at hm2
  have hlen:(jrL jr++O5 sz ino a).length=2+jr+a * sz:=by rw[List.length_append,Zc8,Tm g10]
  have hg:h.get p=some (.row 4 [[.int .i64 gr,.int .i64 sz,.int .i64 ino,.int .i64 jr]] false):=(st.keep p (Nat.le_refl _)).trans hp
  have h1:=st.p1
  obtain⟨n,h3,hn,hpn,hlt⟩:=st.sl
  have c1:decide ((a:Int)<(gr:Int))=true:=decide_eq_true (by omega)
  have ap:=grow2 (thing 4 a 0 0) (thing 5 a 1 0) hn hlt (by rw[hlen]; omega)
  simp only[thing] at ap
  iterate 13 (first|apply Goes.seq|apply Goes.skip|apply Goes.block|apply Goes.loop|((first|apply Goes.Zo|apply Goes.ops2 fits Hh Zb); · simp (decide:=true) only [go_sem,Zr,H.get_put,H.Zf,Za,Zz,reduceIte,Nat.reduceAdd,Nat.reduceMul,Zx,Z0,asC,Ze,Ya,Z7,h6,h1,h3,hg,c1,ap,X3,geo0,Y9,U0,Uy,cW,Nat.zero_add,bld4,bld5,bs2,Lh,Qf,Zn]<;>rfl))
  show Goes K Tryz.prog 73 none (q50 [1,1,1,1,1,0,1,2,2,1,0,2,1,0,1]) _ _ _ _
  rw[Xp]
  refine Goes.block ((all4 Hh F' a (by omega) p h0 hp ((jrL jr++O5 sz ino a)++[thing 4 a 0 0,thing 5 a 1 0]) (by rw[List.length_append,hlen]; show _+2≤_; omega) (ino / 4) 0 _ _ (by omega) ?_ ?_ ?_ ?_).mono ?_)
  ·rw[show inL a ino 0=[] from rfl,List.append_nil]
   refine st.grow hpn hlt ?_ ?_
   ·simp (decide:=true) only [Ze,reduceIte,h1]
   ·simp (decide:=true) only [Ze,reduceIte]
    rfl
  ·simp (decide:=true) only [Ze,reduceIte,h6]
  ·simp (decide:=true) only [Ze,reduceIte]
   rfl
  ·simp (decide:=true) only [Ze,reduceIte,h5]
   rfl
  rintro x ds' ts1 h2 ⟨rfl,rfl,st1,f6,f5⟩
  have hg1:h2.get p=some (.row 4 [[.int .i64 gr,.int .i64 sz,.int .i64 ino,.int .i64 jr]] false):=(st1.keep p (Nat.le_refl _)).trans hp
  have f1:=st1.p1
  have q1:Fe .i64 (ino:Int) 4=some (.int .i64 ((ino / 4:Nat):Int)):=by
   show some (Yn .i64 ((ino:Int).tdiv 4))=_
   rw[show (ino:Int).tdiv 4=((ino / 4:Nat):Int) from rfl,wrap64 (by omega) (by omega)]
  have w1:Yn .i64 (2+((ino / 4:Nat):Int))=.int .i64 ((2+ino / 4:Nat):Int):=by rw[wrap64 (by omega) (by omega)]; congr 1
  iterate 2 (first|apply Goes.seq|(apply Goes.ops2 fits Hh Zb; · simp (decide:=true) only [go_sem,Zr,H.get_put,H.Zf,Za,Zz,reduceIte,Nat.reduceAdd,Nat.reduceMul,f1,hg1,q1,w1,Ep,geo2,Y9,U0,Uy,cW,Nat.zero_add]<;>rfl))
  show Goes K Tryz.prog 73 none (q50 [1,1,1,1,1,0,1,2,2,1,0,2,1,1,1]) _ _ _ _
  rw[Xq]
  refine Goes.block ((all6 Hh F' a (by omega) p h0 hp (((jrL jr++O5 sz ino a)++[thing 4 a 0 0,thing 5 a 1 0])++inL a ino (ino / 4)) (by rw[List.length_append,List.length_append,hlen,Zjw]; show _+2+_≤_; omega) (sz - (2+ino / 4)) 0 _ _ (by omega) ?_ ?_ ?_).mono ?_)
  ·rw[show daL a ino 0=[] from rfl,List.append_nil]
   refine st1.same ?_ ?_
   ·simp (decide:=true) only [Ze,reduceIte]
   ·simp (decide:=true) only [Ze,reduceIte]
  ·simp (decide:=true) only [Ze,reduceIte,f6]
  ·simp (decide:=true) only [Ze,reduceIte]
   rfl
  rintro x ds' ts2 h3' ⟨rfl,rfl,st2,k6,k5⟩
  have k5':Zm ts2 5=.w (.c (.int .i64 ((1+(a+1) * ino:Nat):Int))):=by
   rw[k5]
   simp (decide:=true) only [Ze,reduceIte,f5]
  have w2:Yn .i64 ((a:Int)+1)=.int .i64 ((a+1:Nat):Int):=by rw[wrap64 (by omega) (by omega)]; congr 1
  (apply Goes.ops2 fits Hh Zb; · simp (decide:=true) only [go_sem,Zr,H.get_put,H.Zf,Za,Zz,reduceIte,Nat.reduceAdd,Nat.reduceMul,k6,w2]<;>rfl)
  show Goes K Tryz.prog 73 none (.loop (q50 [1,1,1,1,1,0,1,2,2])) _ _ _ _
  rw[←Ziv]
  refine ih (a+1) _ _ (by omega) ?_ ?_ ?_
  ·have e:jrL jr++O5 sz ino (a+1)=(jrL jr++O5 sz ino a)++[thing 4 a 0 0,thing 5 a 1 0]++inL a ino (ino / 4)++daL a ino (sz - (2+ino / 4)):=by
    rw[Qo,grL]
    simp only[List.append_assoc]
   rw[e]
   refine st2.same ?_ ?_
   ·simp (decide:=true) only [Ze,reduceIte]
   ·simp (decide:=true) only [Ze,reduceIte]
  ·simp (decide:=true) only [Ze,reduceIte]
  ·simp (decide:=true) only [Ze,reduceIte,k5']
omit Hh in
theorem Zq2 (gr sz ino jr:Nat):(Uw gr sz ino jr).all (fun l=>l.all C.flat)=true:=by
 rw[List.all_eq_true]
 intro l hl
 simp only[Uw,jrL,O5,grL,inL,daL,List.mem_append,List.mem_flatMap,List.mem_map,List.mem_cons,List.not_mem_nil,or_false] at hl
 rcases hl with ((h|h)|⟨_,_,h⟩)|⟨_,_,((h|h)|⟨_,_,h⟩)|⟨_,_,h⟩⟩<;>subst h<;>rfl
theorem Zzz {gr sz ino jr:Nat} (F:Fine gr sz ino jr) (h:Go.Ev.H):Zg K Tryz.prog 50 [.g (Yo gr sz ino jr)] h (.w (.c (.slice h.next 0 (Uw gr sz ino jr).length 4))) (h.new (.row 4 (Uw gr sz ino jr) false)):=by
 refine Zg.tidy ⟨_,Tryz.func50,by kernel_rfl,of_decide_eq_true (by kernel_rfl)⟩ fun tidy=>?_
 suffices hs:Goes K Tryz.prog 73 none (q50 []) [] (Jm 0 [.g (Yo gr sz ino jr)] .nil) h fun x ds ts h1=>∃ n,h.next≤n∧n<h1.next∧h1.get n=some (.row 4 (Uw gr sz ino jr) false)∧(∀ n,n<h.next→h1.get n=h.get n)∧leave K Tryz.f50 (some (.at x ds ts h1))=some (.val (.w (.c (.slice n 0 (Uw gr sz ino jr).length 4))) h1) by
  obtain⟨x,ds,ts,h1,g,n,e1,e2,e3,e4,e5⟩:=hs
  exact (Zg.body fits Hh (by kernel_rfl) (by kernel_rfl) (by kernel_rfl) (by kernel_rfl) rfl g e5).row1 e1 e3 (Zq2 _ _ _ _) e2 e4
 have e0:Zm (Jm 0 [.g (Yo gr sz ino jr)] .nil) 0=.w (.g (Yo gr sz ino jr)):=by rw[Y8]; rfl
 have lg:(Yo gr sz ino jr).length=4:=rfl
 have rg:Zd 4 [Yo gr sz ino jr] 0 4=some (Yo gr sz ino jr):=rfl
 have nslice:Q9 (.slice none 0 0)=some (.w (.c .snil)):=rfl
 have e1:Tryz.f50.results.toList=[.tmp 2]:=rfl
 have mk:=Zz4 Hh F (h.new (.row 4 [Yo gr sz ino jr] false))
 iterate 4 (first|apply Goes.seq|(apply Goes.ops2 fits Hh Zb; · simp (decide:=true) only [go_sem,Zr,H.get_put,H.Zf,Za,Zz,reduceIte,Nat.reduceAdd,Nat.reduceMul,e0,lg,rg,nslice,Z6,Uh,G8,Gz,gW,bld1,bs2,Lh]<;>rfl))
 (apply Goes.ops2 fits Hh (Zt Zb mk); · simp (decide:=true) only [go_sem,Zr,H.get_put,H.Zf,Za,Zz,reduceIte,Nat.reduceAdd,Nat.reduceMul,Zw,e0,lg,rg,nslice,Z6,Uh,G8,Gz,gW,bld1,bs2,Lh]<;>rfl)
 iterate 8 (first|apply Goes.seq|apply Goes.skip|apply Goes.block|((first|apply Goes.Zo|apply Goes.ops2 fits Hh Zb); · simp (decide:=true) only [go_sem,Zr,H.get_put,H.Zf,Za,Zz,reduceIte,Nat.reduceAdd,Nat.reduceMul,Zx,Z0,asC,Ze,Ya,Z7,e0,lg,rg,nslice,Z6,Uh,G8,Gz,gW,bld1,bs2,Lh]<;>rfl))
 show Goes K Tryz.prog 73 none (q50 [1,1,1,0,1,2]) _ _ _ _
 have hp:(h.new (.row 4 [Yo gr sz ino jr] false)).get h.next=some (.row 4 [Yo gr sz ino jr] false):=by rw[H.Zf,if_pos rfl]
 refine (all1 Hh F h.next (h.new (.row 4 [Yo gr sz ino jr] false)) hp jr 0 _ _ (by omega) ⟨?_,⟨h.next+1,?_,?_,?_,?_⟩,?_,?_⟩ ?_).mono ?_
 ·simp (decide:=true) only [Ze,reduceIte]
 ·simp (decide:=true) only [Ze,reduceIte,H.Zc]
  rfl
 ·rw[H.Zf,H.Zc,if_pos rfl]
  rfl
 ·omega
 ·rw[H.Zc,H.Zc]; omega
 ·simp only[H.Zc]; omega
 ·intro m hm
  rw[H.Zf,H.Zc,if_neg (by omega)]
 ·simp (decide:=true) only [Ze,reduceIte]
  rfl
 rintro x ds' ts1 h1 ⟨rfl,rfl,st1⟩
 iterate 6 (first|apply Goes.seq|apply Goes.block|(apply Goes.ops2 fits Hh Zb; · simp (decide:=true) only [go_sem,Zr,H.get_put,H.Zf,Za,Zz,reduceIte,Nat.reduceAdd,Nat.reduceMul]<;>rfl))
 show Goes K Tryz.prog 73 none (q50 [1,1,1,1,1,0,1,2]) _ _ _ _
 refine (all2 Hh F h.next (h.new (.row 4 [Yo gr sz ino jr] false)) hp gr 0 _ _ (by omega) ?_ ?_ ?_).mono ?_
 ·rw[show O5 sz ino 0=[] from rfl,List.append_nil]
  refine st1.same ?_ ?_
  ·simp (decide:=true) only [Ze,reduceIte]
  ·simp (decide:=true) only [Ze,reduceIte]
 ·simp (decide:=true) only [Ze,reduceIte]
  rfl
 ·simp (decide:=true) only [Ze,reduceIte]
  rw[Nat.zero_mul]
  rfl
 rintro x ds' ts2 h2 ⟨rfl,rfl,st2⟩
 obtain⟨n,f3,hn,hpn,hlt⟩:=st2.sl
 iterate 3 (first|apply Goes.seq|apply Goes.ret|(apply Goes.ops2 fits Hh Zb; · simp (decide:=true) only [go_sem,Zr,H.get_put,H.Zf,Za,Zz,reduceIte,Nat.reduceAdd,Nat.reduceMul,f3]<;>rfl))
 refine⟨n,by omega,hlt,hn,fun m hm=>?_,?_⟩
 ·rw[st2.keep m (by omega),H.Zf,if_neg (by omega)]
 ·simp (decide:=true) only [U1,Y3,finish,e1,Y1,evalW,Z0,asW,Ze,reduceIte,J5]
end
end Go.Proofs.YtdkcjalmhdofcaaGreatDoor
set_option maxRecDepth 100000
namespace Go.Proofs.YtdkcjalmhdofcaaGreatDoor
open Go.Ev
noncomputable def q51 (p:List Nat):Code:=piece p (Jz Tryz.f51)
theorem Wi:q51 [1,1,1,0,1,2]=.loop (q51 [1,1,1,0,1,2,2]):=by kernel_rfl
section
variable (Hh:Hearts K Tryz.prog)
include Hh
omit Hh in
theorem Yx:K.types.get 120=some ti120:=by kernel_rfl
omit Hh in
theorem Ja:ti120.desc=.slice 125:=rfl
omit Hh in
theorem Fq:Zp K 125 0=some (0,ti5):=by kernel_rfl
omit Hh in
theorem Ff:Zp K 125 1=some (1,ti3):=by kernel_rfl
omit Hh in
theorem Ut:Zp K 125 3=some (3,ti3):=by kernel_rfl
omit Hh in
theorem Ba (n off len sz:Nat):Yr K 120 (.c (.slice n off len sz))=true:=by unfold Yr; rw[Yx]; rfl
def isD:List C→Bool
 | [.int _ k,.int _ a,_,_]=>k == 7&&a == 0
 | _=>false
def Od (L:List (List C)):Nat:=(L.filter isD).length
omit Hh in
theorem Zm7 (L:List (List C)) (x:List C):Od (L++[x])=Od L+if isD x=true then 1 else 0:=by
 unfold Od
 rw[List.filter_append,List.length_append]
 congr 1
 cases e:isD x<;>simp [e]
def Zjo (L:List (List C)):Prop:=∀ x∈L,∃ k a b c:Int,x=thing k a b c
omit Hh in
theorem Ta (gr sz ino jr:Nat):Zjo (Uw gr sz ino jr):=by
 intro l hl
 simp only[Uw,jrL,O5,grL,inL,daL,List.mem_append,List.mem_flatMap,List.mem_map,List.mem_cons,List.not_mem_nil,or_false] at hl
 rcases hl with ((h|h)|⟨_,_,h⟩)|⟨_,_,((h|h)|⟨_,_,h⟩)|⟨_,_,h⟩⟩<;>subst h<;>exact⟨_,_,_,_,rfl⟩
theorem data0 (n:Nat) (L:List (List C)) (ro:Bool) (h:Go.Ev.H) (hL:Zjo L) (hn:h.get n=some (.row 4 L ro)) (hlen:L.length≤4000):∀ (k i:Nat) (ts:Zy),i+k=L.length→Zm ts 3=.w (.c (.slice n 0 L.length 4))→Zm ts 5=.w (.c (.int .i64 i))→Zm ts 4=.w (.c (.int .i64 (Od (L.take i):Nat))) →
  Goes K Tryz.prog 31 none (q51 [1,1,1,0,1,2]) [] ts h fun x ds' ts' h'=>x=.exit 0∧ds'=[]∧h'=h∧Zm ts' 4=.w (.c (.int .i64 (Od L:Nat))):=by
 intro k
 induction k with
 | zero =>
  intro i ts hi h3 h5 h4
  have ei:i=L.length:=by omega
  subst ei
  rw[List.take_length] at h4
  have c1:decide ((L.length:Int)<(L.length:Int))=false:=decide_eq_false (by omega)
  iterate 6 (first|apply Goes.seq|apply Goes.exit|apply Goes.loop|((first|apply Goes.Zo|apply Goes.ops2 fits Hh Zb); · simp (decide:=true) only [go_sem,Zr,H.get_put,H.Zf,Za,Zz,reduceIte,Nat.reduceAdd,Nat.reduceMul,Zx,Z0,asC,Ze,Ya,Z7,h3,h5,c1,Zn,Yg,Ba]<;>rfl))
  refine⟨rfl,rfl,rfl,?_⟩
  simp (decide:=true) only [Ze,reduceIte,h4]
 | succ k ih =>
  intro i ts hi h3 h5 h4
  have hlt:i<L.length:=by omega
  obtain⟨kd,a,b,c,hx⟩:=hL L[i] (List.getElem_mem hlt)
  have hx':L[i]? = some (thing kd a b c):=by rw[List.getElem?_eq_getElem hlt,hx]
  have r0:read1 4 L (i * 4)=some (.int .u8 kd):=Dn (sz:=4) (j:=0) (by omega) hx'
  have r1:read1 4 L (i * 4+1)=some (.int .i64 a):=Dn (sz:=4) (j:=1) (by omega) hx'
  have c1:decide ((i:Int)<(L.length:Int))=true:=decide_eq_true (by omega)
  have b1:Nat.blt i L.length=true:=Un hlt
  have w1:Yn .i64 ((i:Int)+1)=.int .i64 ((i+1:Nat):Int):=by rw[wrap64 (by omega) (by omega)]; congr 1
  have hle:Od (L.take i)≤4000:=Nat.le_trans (List.length_filter_le _ _) (by rw[List.length_take]; omega)
  have w2:Yn .i64 (((Od (L.take i):Nat):Int)+1)=.int .i64 ((Od (L.take i)+1:Nat):Int):=by rw[wrap64 (by omega) (by omega)]; congr 1
  have hs:Od (L.take (i+1))=Od (L.take i)+if (kd == 7&&a == 0)=true then 1 else 0:=by
   rw[List.take_add_one,hx']
   exact Zm7 _ _
  by_cases h7:kd=7
  ·have e7:(kd == 7)=true:=by rw[h7]; rfl
   by_cases ha:a=0
   ·have ea:(a == 0)=true:=by rw[ha]; rfl
    rw[e7,ea] at hs
    iterate 13 (first|apply Goes.seq|apply Goes.skip|apply Goes.block|apply Goes.loop|((first|apply Goes.Zo|apply Goes.ops2 fits Hh Zb); · simp (decide:=true) only [go_sem,Zr,H.get_put,H.Zf,Za,Zz,reduceIte,Nat.reduceAdd,Nat.reduceMul,Zx,Z0,asC,Ze,Ya,Z7,h3,h5,h4,hn,c1,b1,r0,r1,w1,w2,e7,ea,Zn,Yg,Ba,Yx,Ja,Jb,Jt,Fq,Ff,Du,Y9,Mi,U0,Sn,Uy,cW,Nat.zero_add,Nat.add_zero,Nat.beq_refl,beq_self_eq_true]<;>rfl))
    show Goes K Tryz.prog 31 none (.loop (q51 [1,1,1,0,1,2,2])) _ _ _ _
    rw[←Wi]
    refine ih (i+1) _ (by omega) ?_ ?_ ?_
    ·simp (decide:=true) only [Ze,reduceIte,h3]
    ·simp (decide:=true) only [Ze,reduceIte]
    ·simp (decide:=true) only [Ze,reduceIte,hs]<;>rfl
   ·have ea:(a == 0)=false:=by simpa using ha
    rw[e7,ea] at hs
    iterate 13 (first|apply Goes.seq|apply Goes.skip|apply Goes.block|apply Goes.loop|((first|apply Goes.Zo|apply Goes.ops2 fits Hh Zb); · simp (decide:=true) only [go_sem,Zr,H.get_put,H.Zf,Za,Zz,reduceIte,Nat.reduceAdd,Nat.reduceMul,Zx,Z0,asC,Ze,Ya,Z7,h3,h5,h4,hn,c1,b1,r0,r1,w1,w2,e7,ea,Zn,Yg,Ba,Yx,Ja,Jb,Jt,Fq,Ff,Du,Y9,Mi,U0,Sn,Uy,cW,Nat.zero_add,Nat.add_zero,Nat.beq_refl,beq_self_eq_true]<;>rfl))
    show Goes K Tryz.prog 31 none (.loop (q51 [1,1,1,0,1,2,2])) _ _ _ _
    rw[←Wi]
    refine ih (i+1) _ (by omega) ?_ ?_ ?_
    ·simp (decide:=true) only [Ze,reduceIte,h3]
    ·simp (decide:=true) only [Ze,reduceIte]
    ·simp (decide:=true) only [Ze,reduceIte,hs,h4]<;>rfl
  ·have e7:(kd == 7)=false:=by simpa using h7
   rw[e7] at hs
   iterate 13 (first|apply Goes.seq|apply Goes.skip|apply Goes.block|apply Goes.loop|((first|apply Goes.Zo|apply Goes.ops2 fits Hh Zb); · simp (decide:=true) only [go_sem,Zr,H.get_put,H.Zf,Za,Zz,reduceIte,Nat.reduceAdd,Nat.reduceMul,Zx,Z0,asC,Ze,Ya,Z7,h3,h5,h4,hn,c1,b1,r0,r1,w1,w2,e7,Zn,Yg,Ba,Yx,Ja,Jb,Jt,Fq,Ff,Du,Y9,Mi,U0,Sn,Uy,cW,Nat.zero_add,Nat.add_zero,Nat.beq_refl,beq_self_eq_true]<;>rfl))
   show Goes K Tryz.prog 31 none (.loop (q51 [1,1,1,0,1,2,2])) _ _ _ _
   rw[←Wi]
   refine ih (i+1) _ (by omega) ?_ ?_ ?_
   ·simp (decide:=true) only [Ze,reduceIte,h3]
   ·simp (decide:=true) only [Ze,reduceIte]
   ·simp (decide:=true) only [Ze,reduceIte,hs,h4]<;>rfl
theorem Zt2 {gr sz ino jr:Nat} (F:Fine gr sz ino jr) (h:Go.Ev.H):Zg K Tryz.prog 51 [.g (Yo gr sz ino jr)] h (.w (.c (.int .i64 (Od (Uw gr sz ino jr):Nat)))) h:=by
 refine Zg.tidy ⟨_,Tryz.func51,by kernel_rfl,of_decide_eq_true (by kernel_rfl)⟩ fun tidy=>?_
 suffices hs:Goes K Tryz.prog 31 none (q51 []) [] (Jm 0 [.g (Yo gr sz ino jr)] .nil) h fun x ds ts h1=>(∀ n,n<h.next→h1.get n=h.get n)∧leave K Tryz.f51 (some (.at x ds ts h1))=some (.val (.w (.c (.int .i64 (Od (Uw gr sz ino jr):Nat)))) h1) by
  obtain⟨x,ds,ts,h1,g,e2,e3⟩:=hs
  exact (Zg.body fits Hh (by kernel_rfl) (by kernel_rfl) (by kernel_rfl) (by kernel_rfl) rfl g e3).quiet rfl e2
 have e0:Zm (Jm 0 [.g (Yo gr sz ino jr)] .nil) 0=.w (.g (Yo gr sz ino jr)):=by rw[Y8]; rfl
 have lg:(Yo gr sz ino jr).length=4:=rfl
 have rg:Zd 4 [Yo gr sz ino jr] 0 4=some (Yo gr sz ino jr):=rfl
 have e1:Tryz.f51.results.toList=[.tmp 2]:=rfl
 have mk:=Zzz Hh F (h.new (.row 4 [Yo gr sz ino jr] false))
 have hlen:(Uw gr sz ino jr).length≤4000:=by
  rw[Uw,List.length_append,Zc8,Tm F.fit]
  have:=F.all
  omega
 iterate 3 (first|apply Goes.seq|(apply Goes.ops2 fits Hh Zb; · simp (decide:=true) only [go_sem,Zr,H.get_put,H.Zf,Za,Zz,reduceIte,Nat.reduceAdd,Nat.reduceMul,e0,lg,rg,Z6,Uh,G8,Gz,gW]<;>rfl))
 (apply Goes.ops2 fits Hh (Zt Zb mk); · simp (decide:=true) only [go_sem,Zr,H.get_put,H.Zf,Za,Zz,reduceIte,Nat.reduceAdd,Nat.reduceMul,Zw,e0,lg,rg,Z6,Uh,G8,Gz,gW]<;>rfl)
 iterate 6 (first|apply Goes.seq|apply Goes.block|(apply Goes.ops2 fits Hh Zb; · simp (decide:=true) only [go_sem,Zr,H.get_put,H.Zf,Za,Zz,reduceIte,Nat.reduceAdd,Nat.reduceMul,e0,lg,rg,Z6,Uh,G8,Gz,gW]<;>rfl))
 show Goes K Tryz.prog 31 none (q51 [1,1,1,0,1,2]) _ _ _ _
 refine (data0 Hh (h.next+1) (Uw gr sz ino jr) false _ (Ta _ _ _ _) (by rw[H.Zf,H.Zc,if_pos rfl]) hlen (Uw gr sz ino jr).length 0 _ (by omega) ?_ ?_ ?_).mono ?_
 ·simp (decide:=true) only [Ze,reduceIte,H.Zc]
 ·simp (decide:=true) only [Ze,reduceIte]
  rfl
 ·simp (decide:=true) only [Ze,reduceIte]
  rfl
 rintro x ds' ts1 h1 ⟨rfl,rfl,rfl,f4⟩
 iterate 3 (first|apply Goes.seq|apply Goes.ret|(apply Goes.ops2 fits Hh Zb; · simp (decide:=true) only [go_sem,Zr,H.get_put,H.Zf,Za,Zz,reduceIte,Nat.reduceAdd,Nat.reduceMul,f4]<;>rfl))
 refine⟨fun m hm=>?_,?_⟩
 ·rw[H.Zf,H.Zc,if_neg (by omega),H.Zf,if_neg (by omega)]
 ·simp (decide:=true) only [U1,Y3,finish,e1,Y1,evalW,Z0,asW,Ze,reduceIte,J5]
end
end Go.Proofs.YtdkcjalmhdofcaaGreatDoor
