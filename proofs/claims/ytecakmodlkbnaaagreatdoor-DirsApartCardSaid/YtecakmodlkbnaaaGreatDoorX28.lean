/- quernref05: May, All of a geometry that may be, on the evaluator's level. -/
import Derived.Test.YtecakmodlkbnaaaGreatDoorWhat3
import Derived.Test.YtecakmodlkbnaaaGreatDoorEvC
import Derived.Test.YtecakmodlkbnaaaGreatDoorNew2
import Derived.Test.YtecakmodlkbnaaaGreatDoorMpg
import Derived.Test.YtecakmodlkbnaaaGreatDoorStrX
import Derived.Test.YtecakmodlkbnaaaGreatDoorMak3
set_option linter.unusedSimpArgs false
set_option linter.unusedVariables false
set_option linter.unusedSectionVars false
set_option maxRecDepth 100000
namespace Go.Proofs.YtecakmodlkbnaaaGreatDoor
open Go.Ev
theorem Z0z:K.types.get 23=some ti23:=by kernel_rfl
theorem Z9m:ti23.size=4:=rfl
theorem Z70:ti23.agg=true:=rfl
theorem Z3j:Zt K 23 0=some (0,ti3):=by kernel_rfl
theorem Z0r:Zt K 23 1=some (1,ti3):=by kernel_rfl
theorem Zvv:Zt K 23 2=some (2,ti3):=by kernel_rfl
theorem Z1y:Zt K 23 3=some (3,ti3):=by kernel_rfl
theorem geo0 (a b c d:C):read1 4 [[a,b,c,d]] 0=some a:=rfl
theorem geo1 (a b c d:C):read1 4 [[a,b,c,d]] 1=some b:=rfl
theorem geo2 (a b c d:C):read1 4 [[a,b,c,d]] 2=some c:=rfl
theorem geo3 (a b c d:C):read1 4 [[a,b,c,d]] 3=some d:=rfl
noncomputable def q16 (p:List Nat):Code:=piece p (Uh Tryz.f16)
noncomputable def q54 (p:List Nat):Code:=piece p (Uh Tryz.f54)
theorem Zr4:q54 [1,1,1,0,1,2]=.loop (q54 [1,1,1,0,1,2,2]):=by kernel_rfl
theorem Zni:q54 [1,1,1,1,1,0,1,2]=.loop (q54 [1,1,1,1,1,0,1,2,2]):=by kernel_rfl
theorem Zaw:q54 [1,1,1,1,1,0,1,2,2,1,0,2,1,0,1]=.block 4 (q54 [1,1,1,1,1,0,1,2,2,1,0,2,1,0,1,2]):=by kernel_rfl
theorem Wv:q54 [1,1,1,1,1,0,1,2,2,1,0,2,1,0,1,2]=.loop (q54 [1,1,1,1,1,0,1,2,2,1,0,2,1,0,1,2,2]):=by kernel_rfl
theorem Zas:q54 [1,1,1,1,1,0,1,2,2,1,0,2,1,1,1]=.block 6 (q54 [1,1,1,1,1,0,1,2,2,1,0,2,1,1,1,2]):=by kernel_rfl
theorem Qk:q54 [1,1,1,1,1,0,1,2,2,1,0,2,1,1,1,2]=.loop (q54 [1,1,1,1,1,0,1,2,2,1,0,2,1,1,1,2,2]):=by kernel_rfl
section
variable (Hh:Hearts K Tryz.prog)
include Hh
theorem Z7t {gr sz ino jr:Nat} (F:Fine gr sz ino jr) (h:Go.Ev.H):Zg 16 [.g (Jk gr sz ino jr)] h (.w (.c (.bool true))) h:=by
 refine Zy.tidy ⟨_,Tryz.func16,by kernel_rfl,of_decide_eq_true (by kernel_rfl)⟩ fun tidy=>?_
 suffices hs:Ye 66 none (q16 []) [] (Om 0 [.g (Jk gr sz ino jr)] .nil) h fun x ds ts h1=>(∀ n,n<h.next→h1.get n=h.get n)∧leave K Tryz.f16 (some (.at x ds ts h1))=some (.val (.w (.c (.bool true))) h1) by
  obtain⟨x,ds,ts,h1,g,e2,e3⟩:=hs
  exact (Zy.body fits Hh (by kernel_rfl) (by kernel_rfl) (by kernel_rfl) (by kernel_rfl) rfl g e3).quiet rfl e2
 obtain⟨g1,g2,g3,g4,g5,g6,g7,g8,g9,g10,g11⟩:=F
 have e0:Zh (Om 0 [.g (Jk gr sz ino jr)] .nil) 0=.w (.g [.int .i64 gr,.int .i64 sz,.int .i64 ino,.int .i64 jr]):=by rw[Oj]; rfl
 have c1:decide ((gr:Int)<1)=false:=decide_eq_false (by omega)
 have c2:decide ((gr:Int) > 4)=false:=decide_eq_false (by omega)
 have c3:decide ((sz:Int)<16)=false:=decide_eq_false (by omega)
 have c4:decide ((sz:Int) > 512)=false:=decide_eq_false (by omega)
 have c5:decide ((ino:Int)<4)=false:=decide_eq_false (by omega)
 have c6:decide ((ino:Int) > 64)=false:=decide_eq_false (by omega)
 have c7:Np .i64 (ino:Int) 4=some (.int .i64 0):=by
  show some (C.int .i64 ((ino:Int).tmod 4))=_
  rw[show (ino:Int).tmod 4=((ino % 4:Nat):Int) from rfl,g7]
  rfl
 have c8:decide ((jr:Int)<40)=false:=decide_eq_false (by omega)
 have c9:decide ((jr:Int) > 256)=false:=decide_eq_false (by omega)
 have q1:Mk .i64 (ino:Int) 4=some (.int .i64 ((ino / 4:Nat):Int)):=by
  show some (Jr .i64 ((ino:Int).tdiv 4))=_
  rw[show (ino:Int).tdiv 4=((ino / 4:Nat):Int) from rfl,wrap64 (by omega) (by omega)]
 have w1:Jr .i64 (3+((ino / 4:Nat):Int))=.int .i64 ((3+ino / 4:Nat):Int):=by rw[wrap64 (by omega) (by omega)]; congr 1
 have c10:decide ((sz:Int) ≥ ((3+ino / 4:Nat):Int))=true:=decide_eq_true (by omega)
 have w2:Jr .i64 (2+(jr:Int))=.int .i64 ((2+jr:Nat):Int):=by rw[wrap64 (by omega) (by omega)]; congr 1
 have hm:gr * sz≤2048:=by omega
 have w3:Jr .i64 ((gr:Int) * (sz:Int))=.int .i64 ((gr * sz:Nat):Int):=by
  have e:(gr:Int) * (sz:Int)=((gr * sz:Nat):Int):=by simp
  rw[e,wrap64 (by omega) (by omega)]
 have w4:Jr .i64 (((2+jr:Nat):Int)+((gr * sz:Nat):Int))=.int .i64 ((2+jr+gr * sz:Nat):Int):=by rw[wrap64 (by omega) (by omega)]; congr 1
 have c11:decide (((2+jr+gr * sz:Nat):Int)≤2048)=true:=decide_eq_true (by omega)
 have e1:Tryz.f16.results.toList=[.tmp 2]:=rfl
 have z0:((0:Int) != 0)=false:=rfl
 iterate 10 (first|apply Zk|apply Zw|apply Z0|((first|apply Goes.Zi|apply Goes.ops2 fits Hh Za); · simp (decide:=true) only [go_sem,Yw,H.get_put,H.Z7,Zm,Jo,reduceIte,Nat.reduceAdd,Nat.reduceMul,Z6,Y2,asC,Zf,Uz,J7,e0,c1,c2,c3,c4,c5,c6,c7,c8,c9,q1,w1,c10,w2,w3,w4,c11,z0,Yf,Z3j,Z0r,Zvv,Z1y,geo0,geo1,geo2,geo3,Za0,Zj2,Zjj,cW,Nat.zero_add]<;>rfl))
 refine⟨fun n hn=>?_,?_⟩
 ·rw[H.Z7,if_neg (by omega)]
 ·simp (decide:=true) only [N9,U2,finish,e1,Uv,evalW,Y2,asW,Zf,reduceIte,Be]
end
def thing (k gr at' ino:Int):List C:=[.int .u8 k,.int .i64 gr,.int .i64 at',.int .i64 ino]
theorem Ro:Jj K 124=some ti191:=by kernel_rfl
theorem Z0w:ti191.size=4:=rfl
theorem Zzr:ti191.bytes=32:=rfl
theorem bld1 (k:Int):Yo K 191 (some [(0,.c (.int .u8 k))])=some (.g [.int .u8 k,.int .i64 0,.int .i64 0,.int .i64 0]):=by kernel_rfl
theorem bld3 (k a:Int):Yo K 191 (some [(0,.c (.int .u8 k)),(2,.c (.int .i64 a))])=some (.g [.int .u8 k,.int .i64 0,.int .i64 a,.int .i64 0]):=by kernel_rfl
theorem bld4 (k a:Int):Yo K 191 (some [(0,.c (.int .u8 k)),(1,.c (.int .i64 a))])=some (.g [.int .u8 k,.int .i64 a,.int .i64 0,.int .i64 0]):=by kernel_rfl
theorem bld5 (k a b:Int):Yo K 191 (some [(0,.c (.int .u8 k)),(1,.c (.int .i64 a)),(2,.c (.int .i64 b))])=some (.g [.int .u8 k,.int .i64 a,.int .i64 b,.int .i64 0]):=by kernel_rfl
theorem bld6 (k a b c:Int):Yo K 191 (some [(0,.c (.int .u8 k)),(1,.c (.int .i64 a)),(2,.c (.int .i64 b)),(3,.c (.int .i64 c))])=some (.g [.int .u8 k,.int .i64 a,.int .i64 b,.int .i64 c]):=by kernel_rfl
theorem bs1 (h:Go.Ev.H) (a b c d:C):Yj h 1 (some ti191) (some [(0,.g [a,b,c,d])])=some (.w (.c (.slice h.next 0 1 4)),h.new (.row 4 [[a,b,c,d]] false)):=rfl
theorem bs2 (h:Go.Ev.H) (a b c d a' b' c' d':C):Yj h 2 (some ti191) (some [(0,.g [a,b,c,d]),(1,.g [a',b',c',d'])])=some (.w (.c (.slice h.next 0 2 4)),h.new (.row 4 [[a,b,c,d],[a',b',c',d']] false)):=rfl
theorem Zck (n off len sz:Nat):Jg K 124 (.slice n off len sz)=true:=by unfold Jg; rw[show K.types.get 124=some ti124 by kernel_rfl]; rfl
structure AllSt (p:Nat) (h0:Go.Ev.H) (L:List (List C)) (ts:Zx) (h:Go.Ev.H):Prop where
 p1:Zh ts 1=.w (.c (.ptr p 0))
 sl:∃ n,Zh ts 3=.w (.c (.slice n 0 L.length 4))∧h.get n=some (.row 4 L false)∧p<n∧n<h.next
 up:h0.next≤h.next
 keep:∀ m,m≤p→h.get m=h0.get m
theorem AllSt.grow {p n:Nat} {h0 h:Go.Ev.H} {L M:List (List C)} {ts ts':Zx} (s:AllSt p h0 L ts h) (hn:p<n) (hlt:n<h.next) (e1:Zh ts' 1=.w (.c (.ptr p 0))) (e3:Zh ts' 3=.w (.c (.slice (h.next+1) 0 (L.length+M.length) 4))):AllSt p h0 (L++M) ts' (((h.new (.row 4 M false)).del n).new (.row 4 (L++M) false)):=by
 refine⟨e1,⟨h.next+1,by rw[e3,List.length_append],?_,by omega,?_⟩,?_,fun m hm=>?_⟩
 ·rw[H.Z7,H.Yv,H.Zb,if_pos rfl]
 ·rw[H.Zb,H.Yv,H.Zb]; omega
 ·rw[H.Zb,H.Yv,H.Zb]; have:=s.up; omega
 ·rw[H.Z7,H.Yv,H.Zb,if_neg (by omega),H.Nu,if_neg (by omega),H.Z7,if_neg (by omega)]
  exact s.keep m hm
theorem AllSt.same {p:Nat} {h0 h:Go.Ev.H} {L:List (List C)} {ts ts':Zx} (s:AllSt p h0 L ts h) (e1:Zh ts' 1=Zh ts 1) (e3:Zh ts' 3=Zh ts 3):AllSt p h0 L ts' h :=
 ⟨by rw[e1]; exact s.p1,by rw[e3]; exact s.sl,s.up,s.keep⟩
theorem grow1 {h:Go.Ev.H} {n:Nat} {L:List (List C)} (x:List C) (ho:h.get n=some (.row 4 L false)) (hn:n<h.next) (hl:L.length≤4000) :
  Ol (h.new (.row 4 [x] false)) (some ti191) (.slice n 0 L.length 4) (.slice h.next 0 1 4)=some (.w (.c (.slice (h.next+1) 0 (L.length+1) 4)),((h.new (.row 4 [x] false)).del n).new (.row 4 (L++[x]) false)) :=
 Zam (M:=[x]) Z0w (by rw[H.Z7,if_neg (by omega)]; exact ho) (by rw[H.Z7,if_pos rfl]) (by simp) (by rw[Zzr]; show (L.length+1) * 32≤_; omega) (by show L.length+1≤_; omega)
theorem grow2 {h:Go.Ev.H} {n:Nat} {L:List (List C)} (x y:List C) (ho:h.get n=some (.row 4 L false)) (hn:n<h.next) (hl:L.length≤4000) :
  Ol (h.new (.row 4 [x,y] false)) (some ti191) (.slice n 0 L.length 4) (.slice h.next 0 2 4)=some (.w (.c (.slice (h.next+1) 0 (L.length+2) 4)),((h.new (.row 4 [x,y] false)).del n).new (.row 4 (L++[x,y]) false)) :=
 Zam (M:=[x,y]) Z0w (by rw[H.Z7,if_neg (by omega)]; exact ho) (by rw[H.Z7,if_pos rfl]) (by simp) (by rw[Zzr]; show (L.length+2) * 32≤_; omega) (by show L.length+2≤_; omega)
def jrL (i:Nat):List (List C):=[thing 1 0 0 0,thing 2 0 0 0]++(List.range i).map fun (j:Nat)=>thing 3 0 j 0
def inL (a ino c:Nat):List (List C):=(List.range c).map fun (k:Nat)=>thing 6 a ((2+k:Nat):Int) ((1+a * ino+4 * k:Nat):Int)
def daL (a ino d:Nat):List (List C):=(List.range d).map fun (k:Nat)=>thing 7 a ((2+ino / 4+k:Nat):Int) 0
def grL (sz ino a:Nat):List (List C):=[thing 4 a 0 0,thing 5 a 1 0]++inL a ino (ino / 4)++daL a ino (sz - (2+ino / 4))
def Oo (sz ino a:Nat):List (List C):=(List.range a).flatMap (grL sz ino)
def Znq (gr sz ino jr:Nat):List (List C):=jrL jr++Oo sz ino gr
theorem Zmo (i:Nat):(jrL i).length=2+i:=by simp [jrL]; omega
theorem Zze (i:Nat):jrL (i+1)=jrL i++[thing 3 0 i 0]:=by simp [jrL,List.range_succ]
theorem Zlz (a ino c:Nat):(inL a ino c).length=c:=by simp [inL]
theorem Z17 (a ino c:Nat):inL a ino (c+1)=inL a ino c++[thing 6 a ((2+c:Nat):Int) ((1+a * ino+4 * c:Nat):Int)]:=by simp [inL,List.range_succ]
theorem Zu7 (a ino d:Nat):(daL a ino d).length=d:=by simp [daL]
theorem Z1v (a ino d:Nat):daL a ino (d+1)=daL a ino d++[thing 7 a ((2+ino / 4+d:Nat):Int) 0]:=by simp [daL,List.range_succ]
theorem Z60 {sz ino:Nat} (h:3+ino / 4≤sz) (a:Nat):(grL sz ino a).length=sz:=by simp [grL,Zlz,Zu7]; omega
theorem Zdh (sz ino a:Nat):Oo sz ino (a+1)=Oo sz ino a++grL sz ino a:=by simp [Oo,List.range_succ]
theorem Zpx {sz ino:Nat} (h:3+ino / 4≤sz) (a:Nat):(Oo sz ino a).length=a * sz:=by
 induction a with
 | zero=>simp [Oo]
 | succ a ih=>rw[Zdh,List.length_append,ih,Z60 h,Nat.succ_mul]
section
variable (Hh:Hearts K Tryz.prog)
include Hh
theorem all1 {gr sz ino jr:Nat} (F:Fine gr sz ino jr) (p:Nat) (h0:Go.Ev.H) (hp:h0.get p=some (.row 4 [Jk gr sz ino jr] false)):∀ (k i:Nat) (ts:Zx) (h:Go.Ev.H),i+k=jr→AllSt p h0 (jrL i) ts h→Zh ts 4=.w (.c (.int .i64 i)) →
  Ye 73 none (q54 [1,1,1,0,1,2]) [] ts h fun x ds' ts' h'=>x=.exit 0∧ds'=[]∧AllSt p h0 (jrL jr) ts' h':=by
 obtain⟨g1,g2,g3,g4,g5,g6,g7,g8,g9,g10,g11⟩:=F
 intro k
 induction k with
 | zero =>
  intro i ts h hi st h4
  have ei:i=jr:=by omega
  subst ei
  have hg:h.get p=some (.row 4 [[.int .i64 gr,.int .i64 sz,.int .i64 ino,.int .i64 i]] false):=(st.keep p (Nat.le_refl _)).trans hp
  have h1:=st.p1
  have c1:decide ((i:Int)<(i:Int))=false:=decide_eq_false (by omega)
  iterate 6 (first|apply Zk|apply Ux|apply Je|((first|apply Goes.Zi|apply Goes.ops2 fits Hh Za); · simp (decide:=true) only [go_sem,Yw,H.get_put,H.Z7,Zm,Jo,reduceIte,Nat.reduceAdd,Nat.reduceMul,Z6,Y2,asC,Zf,Uz,J7,h4,h1,hg,c1,Z1y,geo3,Za0,Zj2,Zjj,cW,Nat.zero_add]<;>rfl))
  refine⟨rfl,rfl,st.same ?_ ?_⟩
  ·simp (decide:=true) only [Zf,reduceIte]
  ·simp (decide:=true) only [Zf,reduceIte]
 | succ k ih =>
  intro i ts h hi st h4
  have hg:h.get p=some (.row 4 [[.int .i64 gr,.int .i64 sz,.int .i64 ino,.int .i64 jr]] false):=(st.keep p (Nat.le_refl _)).trans hp
  have h1:=st.p1
  obtain⟨n,h3,hn,hpn,hlt⟩:=st.sl
  have c1:decide ((i:Int)<(jr:Int))=true:=decide_eq_true (by omega)
  have w1:Jr .i64 ((i:Int)+1)=.int .i64 ((i+1:Nat):Int):=by rw[wrap64 (by omega) (by omega)]; congr 1
  have ap:=grow1 (thing 3 0 i 0) hn hlt (by rw[Zmo]; omega)
  simp only[thing] at ap
  iterate 10 (first|apply Zk|apply Zw|apply Yt|apply Je|((first|apply Goes.Zi|apply Goes.ops2 fits Hh Za); · simp (decide:=true) only [go_sem,Yw,H.get_put,H.Z7,Zm,Jo,reduceIte,Nat.reduceAdd,Nat.reduceMul,Z6,Y2,asC,Zf,Uz,J7,h4,h1,h3,hg,c1,w1,ap,Z1y,geo3,Za0,Zj2,Zjj,cW,Nat.zero_add,bld3,bs1,Ro,Zck,Zr]<;>rfl))
  show Ye 73 none (.loop (q54 [1,1,1,0,1,2,2])) _ _ _ _
  rw[←Zr4]
  refine ih (i+1) _ _ (by omega) ?_ ?_
  ·rw[Zze]
   refine st.grow hpn hlt ?_ ?_
   ·simp (decide:=true) only [Zf,reduceIte,h1]
   ·simp (decide:=true) only [Zf,reduceIte]
    rfl
  ·simp (decide:=true) only [Zf,reduceIte]
theorem all4 {gr sz ino jr:Nat} (F:Fine gr sz ino jr) (a:Nat) (ha:a<gr) (p:Nat) (h0:Go.Ev.H) (hp:h0.get p=some (.row 4 [Jk gr sz ino jr] false)) (B:List (List C)) (hB:B.length≤2060):∀ (k c:Nat) (ts:Zx) (h:Go.Ev.H),c+k=ino / 4→AllSt p h0 (B++inL a ino c) ts h→Zh ts 6=.w (.c (.int .i64 a))→Zh ts 7=.w (.c (.int .i64 ((4 * c:Nat):Int)))→Zh ts 5=.w (.c (.int .i64 ((1+a * ino+4 * c:Nat):Int))) →
  Ye 73 none (q54 [1,1,1,1,1,0,1,2,2,1,0,2,1,0,1,2]) [] ts h fun x ds' ts' h'=>x=.exit 4∧ds'=[]∧AllSt p h0 (B++inL a ino (ino / 4)) ts' h'∧Zh ts' 6=.w (.c (.int .i64 a))∧Zh ts' 5=.w (.c (.int .i64 ((1+(a+1) * ino:Nat):Int))):=by
 obtain⟨g1,g2,g3,g4,g5,g6,g7,g8,g9,g10,g11⟩:=F
 have ham:a * ino≤4 * 64:=Nat.mul_le_mul (by omega) (by omega)
 intro k
 induction k with
 | zero =>
  intro c ts h hc st h6 h7 h5
  have ec:c=ino / 4:=by omega
  subst ec
  have hg:h.get p=some (.row 4 [[.int .i64 gr,.int .i64 sz,.int .i64 ino,.int .i64 jr]] false):=(st.keep p (Nat.le_refl _)).trans hp
  have h1:=st.p1
  have c1:decide (((4 * (ino / 4):Nat):Int)<(ino:Int))=false:=decide_eq_false (by omega)
  iterate 6 (first|apply Zk|apply Ux|apply Je|((first|apply Goes.Zi|apply Goes.ops2 fits Hh Za); · simp (decide:=true) only [go_sem,Yw,H.get_put,H.Z7,Zm,Jo,reduceIte,Nat.reduceAdd,Nat.reduceMul,Z6,Y2,asC,Zf,Uz,J7,h7,h1,hg,c1,Zvv,geo2,Za0,Zj2,Zjj,cW,Nat.zero_add]<;>rfl))
  refine⟨rfl,rfl,st.same ?_ ?_,?_,?_⟩
  ·simp (decide:=true) only [Zf,reduceIte]
  ·simp (decide:=true) only [Zf,reduceIte]
  ·simp (decide:=true) only [Zf,reduceIte,h6]
  ·simp (decide:=true) only [Zf,reduceIte,h5]
   have:1+a * ino+4 * (ino / 4)=1+(a+1) * ino:=by rw[Nat.add_mul,Nat.one_mul]; omega
   rw[this]
 | succ k ih =>
  intro c ts h hc st h6 h7 h5
  have hg:h.get p=some (.row 4 [[.int .i64 gr,.int .i64 sz,.int .i64 ino,.int .i64 jr]] false):=(st.keep p (Nat.le_refl _)).trans hp
  have h1:=st.p1
  obtain⟨n,h3,hn,hpn,hlt⟩:=st.sl
  have c1:decide (((4 * c:Nat):Int)<(ino:Int))=true:=decide_eq_true (by omega)
  have q1:Mk .i64 ((4 * c:Nat):Int) 4=some (.int .i64 (c:Int)):=by
   show some (Jr .i64 (((4 * c:Nat):Int).tdiv 4))=_
   rw[show ((4 * c:Nat):Int).tdiv 4=((4 * c / 4:Nat):Int) from rfl,show 4 * c / 4=c by omega,wrap64 (by omega) (by omega)]
  have w1:Jr .i64 (2+(c:Int))=.int .i64 ((2+c:Nat):Int):=by rw[wrap64 (by omega) (by omega)]; congr 1
  have w2:Jr .i64 (((1+a * ino+4 * c:Nat):Int)+4)=.int .i64 ((1+a * ino+4 * (c+1):Nat):Int):=by rw[wrap64 (by omega) (by omega)]; congr 1
  have w3:Jr .i64 (((4 * c:Nat):Int)+4)=.int .i64 ((4 * (c+1):Nat):Int):=by rw[wrap64 (by omega) (by omega)]; congr 1
  have ap:=grow1 (thing 6 a ((2+c:Nat):Int) ((1+a * ino+4 * c:Nat):Int)) hn hlt (by rw[List.length_append,Zlz]; omega)
  simp only[thing] at ap
  iterate 12 (first|apply Zk|apply Zw|apply Yt|apply Je|((first|apply Goes.Zi|apply Goes.ops2 fits Hh Za); · simp (decide:=true) only [go_sem,Yw,H.get_put,H.Z7,Zm,Jo,reduceIte,Nat.reduceAdd,Nat.reduceMul,Z6,Y2,asC,Zf,Uz,J7,h7,h6,h5,h1,h3,hg,c1,q1,w1,w2,w3,ap,Zvv,geo2,Za0,Zj2,Zjj,cW,Nat.zero_add,bld6,bs1,Ro,Zck,Zr]<;>rfl))
  show Ye 73 none (.loop (q54 [1,1,1,1,1,0,1,2,2,1,0,2,1,0,1,2,2])) _ _ _ _
  rw[←Wv]
  refine ih (c+1) _ _ (by omega) ?_ ?_ ?_ ?_
  ·rw[Z17,←List.append_assoc]
   refine st.grow hpn hlt ?_ ?_
   ·simp (decide:=true) only [Zf,reduceIte,h1]
   ·simp (decide:=true) only [Zf,reduceIte]
    rfl
  ·simp (decide:=true) only [Zf,reduceIte,h6]
  ·simp (decide:=true) only [Zf,reduceIte]
  ·simp (decide:=true) only [Zf,reduceIte]
theorem all6 {gr sz ino jr:Nat} (F:Fine gr sz ino jr) (a:Nat) (ha:a<gr) (p:Nat) (h0:Go.Ev.H) (hp:h0.get p=some (.row 4 [Jk gr sz ino jr] false)) (B:List (List C)) (hB:B.length≤2100):∀ (k d:Nat) (ts:Zx) (h:Go.Ev.H),2+ino / 4+d+k=sz→AllSt p h0 (B++daL a ino d) ts h→Zh ts 6=.w (.c (.int .i64 a))→Zh ts 8=.w (.c (.int .i64 ((2+ino / 4+d:Nat):Int))) →
  Ye 73 none (q54 [1,1,1,1,1,0,1,2,2,1,0,2,1,1,1,2]) [] ts h fun x ds' ts' h'=>x=.exit 6∧ds'=[]∧AllSt p h0 (B++daL a ino (sz - (2+ino / 4))) ts' h'∧Zh ts' 6=.w (.c (.int .i64 a))∧Zh ts' 5=Zh ts 5:=by
 obtain⟨g1,g2,g3,g4,g5,g6,g7,g8,g9,g10,g11⟩:=F
 intro k
 induction k with
 | zero =>
  intro d ts h hd st h6 h8
  have ed:d=sz - (2+ino / 4):=by omega
  subst ed
  have hg:h.get p=some (.row 4 [[.int .i64 gr,.int .i64 sz,.int .i64 ino,.int .i64 jr]] false):=(st.keep p (Nat.le_refl _)).trans hp
  have h1:=st.p1
  have c1:decide (((2+ino / 4+(sz - (2+ino / 4)):Nat):Int)<(sz:Int))=false:=decide_eq_false (by omega)
  iterate 6 (first|apply Zk|apply Ux|apply Je|((first|apply Goes.Zi|apply Goes.ops2 fits Hh Za); · simp (decide:=true) only [go_sem,Yw,H.get_put,H.Z7,Zm,Jo,reduceIte,Nat.reduceAdd,Nat.reduceMul,Z6,Y2,asC,Zf,Uz,J7,h8,h1,hg,c1,Z0r,geo1,Za0,Zj2,Zjj,cW,Nat.zero_add]<;>rfl))
  refine⟨rfl,rfl,st.same ?_ ?_,?_,?_⟩
  ·simp (decide:=true) only [Zf,reduceIte]
  ·simp (decide:=true) only [Zf,reduceIte]
  ·simp (decide:=true) only [Zf,reduceIte,h6]
  ·simp (decide:=true) only [Zf,reduceIte]
 | succ k ih =>
  intro d ts h hd st h6 h8
  have hg:h.get p=some (.row 4 [[.int .i64 gr,.int .i64 sz,.int .i64 ino,.int .i64 jr]] false):=(st.keep p (Nat.le_refl _)).trans hp
  have h1:=st.p1
  obtain⟨n,h3,hn,hpn,hlt⟩:=st.sl
  have c1:decide (((2+ino / 4+d:Nat):Int)<(sz:Int))=true:=decide_eq_true (by omega)
  have w1:Jr .i64 (((2+ino / 4+d:Nat):Int)+1)=.int .i64 ((2+ino / 4+(d+1):Nat):Int):=by rw[wrap64 (by omega) (by omega)]; congr 1
  have ap:=grow1 (thing 7 a ((2+ino / 4+d:Nat):Int) 0) hn hlt (by rw[List.length_append,Zu7]; omega)
  simp only[thing] at ap
  iterate 10 (first|apply Zk|apply Zw|apply Yt|apply Je|((first|apply Goes.Zi|apply Goes.ops2 fits Hh Za); · simp (decide:=true) only [go_sem,Yw,H.get_put,H.Z7,Zm,Jo,reduceIte,Nat.reduceAdd,Nat.reduceMul,Z6,Y2,asC,Zf,Uz,J7,h8,h6,h1,h3,hg,c1,w1,ap,Z0r,geo1,Za0,Zj2,Zjj,cW,Nat.zero_add,bld5,bs1,Ro,Zck,Zr]<;>rfl))
  show Ye 73 none (.loop (q54 [1,1,1,1,1,0,1,2,2,1,0,2,1,1,1,2,2])) _ _ _ _
  rw[←Qk]
  refine (ih (d+1) _ _ (by omega) ?_ ?_ ?_).mono ?_
  ·rw[Z1v,←List.append_assoc]
   refine st.grow hpn hlt ?_ ?_
   ·simp (decide:=true) only [Zf,reduceIte,h1]
   ·simp (decide:=true) only [Zf,reduceIte]
    rfl
  ·simp (decide:=true) only [Zf,reduceIte,h6]
  ·simp (decide:=true) only [Zf,reduceIte]
  ·rintro x ds' ts' h' ⟨e1,e2,e3,e4,e5⟩
   refine⟨e1,e2,e3,e4,?_⟩
   rw[e5]
   simp (decide:=true) only [Zf,reduceIte]
theorem all2 {gr sz ino jr:Nat} (F:Fine gr sz ino jr) (p:Nat) (h0:Go.Ev.H) (hp:h0.get p=some (.row 4 [Jk gr sz ino jr] false)):∀ (k a:Nat) (ts:Zx) (h:Go.Ev.H),a+k=gr→AllSt p h0 (jrL jr++Oo sz ino a) ts h→Zh ts 6=.w (.c (.int .i64 a))→Zh ts 5=.w (.c (.int .i64 ((1+a * ino:Nat):Int))) →
  Ye 73 none (q54 [1,1,1,1,1,0,1,2]) [] ts h fun x ds' ts' h'=>x=.exit 2∧ds'=[]∧AllSt p h0 (Znq gr sz ino jr) ts' h':=by
 have F':=F
 obtain⟨g1,g2,g3,g4,g5,g6,g7,g8,g9,g10,g11⟩:=F
 intro k
 induction k with
 | zero =>
  intro a ts h ha st h6 h5
  have ea:a=gr:=by omega
  subst ea
  have hg:h.get p=some (.row 4 [[.int .i64 a,.int .i64 sz,.int .i64 ino,.int .i64 jr]] false):=(st.keep p (Nat.le_refl _)).trans hp
  have h1:=st.p1
  have c1:decide ((a:Int)<(a:Int))=false:=decide_eq_false (by omega)
  iterate 6 (first|apply Zk|apply Ux|apply Je|((first|apply Goes.Zi|apply Goes.ops2 fits Hh Za); · simp (decide:=true) only [go_sem,Yw,H.get_put,H.Z7,Zm,Jo,reduceIte,Nat.reduceAdd,Nat.reduceMul,Z6,Y2,asC,Zf,Uz,J7,h6,h1,hg,c1,Z3j,geo0,Za0,Zj2,Zjj,cW,Nat.zero_add]<;>rfl))
  refine⟨rfl,rfl,st.same ?_ ?_⟩
  ·simp (decide:=true) only [Zf,reduceIte]
  ·simp (decide:=true) only [Zf,reduceIte]
 | succ k ih =>
  intro a ts h ha st h6 h5
  have hm:a * sz≤gr * sz:=Nat.mul_le_mul (by omega) (Nat.le_refl _)
  have hm2:(a+1) * sz≤gr * sz:=Nat.mul_le_mul (by omega) (Nat.le_refl _)
  rw[Nat.succ_mul] at hm2
  have hlen:(jrL jr++Oo sz ino a).length=2+jr+a * sz:=by rw[List.length_append,Zmo,Zpx g10]
  have hg:h.get p=some (.row 4 [[.int .i64 gr,.int .i64 sz,.int .i64 ino,.int .i64 jr]] false):=(st.keep p (Nat.le_refl _)).trans hp
  have h1:=st.p1
  obtain⟨n,h3,hn,hpn,hlt⟩:=st.sl
  have c1:decide ((a:Int)<(gr:Int))=true:=decide_eq_true (by omega)
  have ap:=grow2 (thing 4 a 0 0) (thing 5 a 1 0) hn hlt (by rw[hlen]; omega)
  simp only[thing] at ap
  iterate 13 (first|apply Zk|apply Zw|apply Yt|apply Je|((first|apply Goes.Zi|apply Goes.ops2 fits Hh Za); · simp (decide:=true) only [go_sem,Yw,H.get_put,H.Z7,Zm,Jo,reduceIte,Nat.reduceAdd,Nat.reduceMul,Z6,Y2,asC,Zf,Uz,J7,h6,h1,h3,hg,c1,ap,Z3j,geo0,Za0,Zj2,Zjj,cW,Nat.zero_add,bld4,bld5,bs2,Ro,Zck,Zr]<;>rfl))
  show Ye 73 none (q54 [1,1,1,1,1,0,1,2,2,1,0,2,1,0,1]) _ _ _ _
  rw[Zaw]
  refine Yt ((all4 Hh F' a (by omega) p h0 hp ((jrL jr++Oo sz ino a)++[thing 4 a 0 0,thing 5 a 1 0]) (by rw[List.length_append,hlen]; show _+2≤_; omega) (ino / 4) 0 _ _ (by omega) ?_ ?_ ?_ ?_).mono ?_)
  ·rw[show inL a ino 0=[] from rfl,List.append_nil]
   refine st.grow hpn hlt ?_ ?_
   ·simp (decide:=true) only [Zf,reduceIte,h1]
   ·simp (decide:=true) only [Zf,reduceIte]
    rfl
  ·simp (decide:=true) only [Zf,reduceIte,h6]
  ·simp (decide:=true) only [Zf,reduceIte]
   rfl
  ·simp (decide:=true) only [Zf,reduceIte,h5]
   rfl
  rintro x ds' ts1 h2 ⟨rfl,rfl,st1,f6,f5⟩
  have hg1:h2.get p=some (.row 4 [[.int .i64 gr,.int .i64 sz,.int .i64 ino,.int .i64 jr]] false):=(st1.keep p (Nat.le_refl _)).trans hp
  have f1:=st1.p1
  have q1:Mk .i64 (ino:Int) 4=some (.int .i64 ((ino / 4:Nat):Int)):=by
   show some (Jr .i64 ((ino:Int).tdiv 4))=_
   rw[show (ino:Int).tdiv 4=((ino / 4:Nat):Int) from rfl,wrap64 (by omega) (by omega)]
  have w1:Jr .i64 (2+((ino / 4:Nat):Int))=.int .i64 ((2+ino / 4:Nat):Int):=by rw[wrap64 (by omega) (by omega)]; congr 1
  iterate 2 (first|apply Zk|(apply Goes.ops2 fits Hh Za; · simp (decide:=true) only [go_sem,Yw,H.get_put,H.Z7,Zm,Jo,reduceIte,Nat.reduceAdd,Nat.reduceMul,f1,hg1,q1,w1,Zvv,geo2,Za0,Zj2,Zjj,cW,Nat.zero_add]<;>rfl))
  show Ye 73 none (q54 [1,1,1,1,1,0,1,2,2,1,0,2,1,1,1]) _ _ _ _
  rw[Zas]
  refine Yt ((all6 Hh F' a (by omega) p h0 hp (((jrL jr++Oo sz ino a)++[thing 4 a 0 0,thing 5 a 1 0])++inL a ino (ino / 4)) (by rw[List.length_append,List.length_append,hlen,Zlz]; show _+2+_≤_; omega) (sz - (2+ino / 4)) 0 _ _ (by omega) ?_ ?_ ?_).mono ?_)
  ·rw[show daL a ino 0=[] from rfl,List.append_nil]
   refine st1.same ?_ ?_
   ·simp (decide:=true) only [Zf,reduceIte]
   ·simp (decide:=true) only [Zf,reduceIte]
  ·simp (decide:=true) only [Zf,reduceIte,f6]
  ·simp (decide:=true) only [Zf,reduceIte]
   rfl
  rintro x ds' ts2 h3' ⟨rfl,rfl,st2,k6,k5⟩
  have k5':Zh ts2 5=.w (.c (.int .i64 ((1+(a+1) * ino:Nat):Int))):=by
   rw[k5]
   simp (decide:=true) only [Zf,reduceIte,f5]
  have w2:Jr .i64 ((a:Int)+1)=.int .i64 ((a+1:Nat):Int):=by rw[wrap64 (by omega) (by omega)]; congr 1
  (apply Goes.ops2 fits Hh Za; · simp (decide:=true) only [go_sem,Yw,H.get_put,H.Z7,Zm,Jo,reduceIte,Nat.reduceAdd,Nat.reduceMul,k6,w2]<;>rfl)
  show Ye 73 none (.loop (q54 [1,1,1,1,1,0,1,2,2])) _ _ _ _
  rw[←Zni]
  refine ih (a+1) _ _ (by omega) ?_ ?_ ?_
  ·have e:jrL jr++Oo sz ino (a+1)=(jrL jr++Oo sz ino a)++[thing 4 a 0 0,thing 5 a 1 0]++inL a ino (ino / 4)++daL a ino (sz - (2+ino / 4)):=by
    rw[Zdh,grL]
    simp only[List.append_assoc]
   rw[e]
   refine st2.same ?_ ?_
   ·simp (decide:=true) only [Zf,reduceIte]
   ·simp (decide:=true) only [Zf,reduceIte]
  ·simp (decide:=true) only [Zf,reduceIte]
  ·simp (decide:=true) only [Zf,reduceIte,k5']
omit Hh in
theorem Zwe (gr sz ino jr:Nat):(Znq gr sz ino jr).all (fun l=>l.all C.flat)=true:=by
 rw[List.all_eq_true]
 intro l hl
 simp only[Znq,jrL,Oo,grL,inL,daL,List.mem_append,List.mem_flatMap,List.mem_map,List.mem_cons,List.not_mem_nil,or_false] at hl
 rcases hl with ((h|h)|⟨_,_,h⟩)|⟨_,_,((h|h)|⟨_,_,h⟩)|⟨_,_,h⟩⟩<;>subst h<;>rfl
theorem Yb0 {gr sz ino jr:Nat} (F:Fine gr sz ino jr) (h:Go.Ev.H):Zg 54 [.g (Jk gr sz ino jr)] h (.w (.c (.slice h.next 0 (Znq gr sz ino jr).length 4))) (h.new (.row 4 (Znq gr sz ino jr) false)):=by
 refine Zy.tidy ⟨_,Tryz.func54,by kernel_rfl,of_decide_eq_true (by kernel_rfl)⟩ fun tidy=>?_
 suffices hs:Ye 73 none (q54 []) [] (Om 0 [.g (Jk gr sz ino jr)] .nil) h fun x ds ts h1=>∃ n,h.next≤n∧n<h1.next∧h1.get n=some (.row 4 (Znq gr sz ino jr) false)∧(∀ n,n<h.next→h1.get n=h.get n)∧leave K Tryz.f54 (some (.at x ds ts h1))=some (.val (.w (.c (.slice n 0 (Znq gr sz ino jr).length 4))) h1) by
  obtain⟨x,ds,ts,h1,g,n,e1,e2,e3,e4,e5⟩:=hs
  exact (Zy.body fits Hh (by kernel_rfl) (by kernel_rfl) (by kernel_rfl) (by kernel_rfl) rfl g e5).row1 e1 e3 (Zwe _ _ _ _) e2 e4
 have e0:Zh (Om 0 [.g (Jk gr sz ino jr)] .nil) 0=.w (.g (Jk gr sz ino jr)):=by rw[Oj]; rfl
 have lg:(Jk gr sz ino jr).length=4:=rfl
 have rg:Zn 4 [Jk gr sz ino jr] 0 4=some (Jk gr sz ino jr):=rfl
 have nslice:Zee (.slice none 0 0)=some (.w (.c .snil)):=rfl
 have e1:Tryz.f54.results.toList=[.tmp 2]:=rfl
 have mk:=Z7t Hh F (h.new (.row 4 [Jk gr sz ino jr] false))
 iterate 4 (first|apply Zk|(apply Goes.ops2 fits Hh Za; · simp (decide:=true) only [go_sem,Yw,H.get_put,H.Z7,Zm,Jo,reduceIte,Nat.reduceAdd,Nat.reduceMul,e0,lg,rg,nslice,Yf,Z0z,Z9m,Z70,gW,bld1,bs2,Ro]<;>rfl))
 (apply Goes.ops2 fits Hh (Zp Za mk); · simp (decide:=true) only [go_sem,Yw,H.get_put,H.Z7,Zm,Jo,reduceIte,Nat.reduceAdd,Nat.reduceMul,Ya,e0,lg,rg,nslice,Yf,Z0z,Z9m,Z70,gW,bld1,bs2,Ro]<;>rfl)
 iterate 8 (first|apply Zk|apply Zw|apply Yt|((first|apply Goes.Zi|apply Goes.ops2 fits Hh Za); · simp (decide:=true) only [go_sem,Yw,H.get_put,H.Z7,Zm,Jo,reduceIte,Nat.reduceAdd,Nat.reduceMul,Z6,Y2,asC,Zf,Uz,J7,e0,lg,rg,nslice,Yf,Z0z,Z9m,Z70,gW,bld1,bs2,Ro]<;>rfl))
 show Ye 73 none (q54 [1,1,1,0,1,2]) _ _ _ _
 have hp:(h.new (.row 4 [Jk gr sz ino jr] false)).get h.next=some (.row 4 [Jk gr sz ino jr] false):=by rw[H.Z7,if_pos rfl]
 refine (all1 Hh F h.next (h.new (.row 4 [Jk gr sz ino jr] false)) hp jr 0 _ _ (by omega) ⟨?_,⟨h.next+1,?_,?_,?_,?_⟩,?_,?_⟩ ?_).mono ?_
 ·simp (decide:=true) only [Zf,reduceIte]
 ·simp (decide:=true) only [Zf,reduceIte,H.Zb]
  rfl
 ·rw[H.Z7,H.Zb,if_pos rfl]
  rfl
 ·omega
 ·rw[H.Zb,H.Zb]; omega
 ·simp only[H.Zb]; omega
 ·intro m hm
  rw[H.Z7,H.Zb,if_neg (by omega)]
 ·simp (decide:=true) only [Zf,reduceIte]
  rfl
 rintro x ds' ts1 h1 ⟨rfl,rfl,st1⟩
 iterate 6 (first|apply Zk|apply Yt|(apply Goes.ops2 fits Hh Za; · simp (decide:=true) only [go_sem,Yw,H.get_put,H.Z7,Zm,Jo,reduceIte,Nat.reduceAdd,Nat.reduceMul]<;>rfl))
 show Ye 73 none (q54 [1,1,1,1,1,0,1,2]) _ _ _ _
 refine (all2 Hh F h.next (h.new (.row 4 [Jk gr sz ino jr] false)) hp gr 0 _ _ (by omega) ?_ ?_ ?_).mono ?_
 ·rw[show Oo sz ino 0=[] from rfl,List.append_nil]
  refine st1.same ?_ ?_
  ·simp (decide:=true) only [Zf,reduceIte]
  ·simp (decide:=true) only [Zf,reduceIte]
 ·simp (decide:=true) only [Zf,reduceIte]
  rfl
 ·simp (decide:=true) only [Zf,reduceIte]
  rw[Nat.zero_mul]
  rfl
 rintro x ds' ts2 h2 ⟨rfl,rfl,st2⟩
 obtain⟨n,f3,hn,hpn,hlt⟩:=st2.sl
 iterate 3 (first|apply Zk|apply Z0|(apply Goes.ops2 fits Hh Za; · simp (decide:=true) only [go_sem,Yw,H.get_put,H.Z7,Zm,Jo,reduceIte,Nat.reduceAdd,Nat.reduceMul,f3]<;>rfl))
 refine⟨n,by omega,hlt,hn,fun m hm=>?_,?_⟩
 ·rw[st2.keep m (by omega),H.Z7,if_neg (by omega)]
 ·simp (decide:=true) only [N9,U2,finish,e1,Uv,evalW,Y2,asW,Zf,reduceIte,Be]
end
end Go.Proofs.YtecakmodlkbnaaaGreatDoor
set_option maxRecDepth 100000
set_option maxHeartbeats 4000000
namespace Go.Proofs.YtecakmodlkbnaaaGreatDoor
open Go.Ev
theorem ty124:K.types.get 124=some ti124:=by kernel_rfl
theorem sz124:ti124.size=1:=by rfl
theorem ag124:ti124.agg=false:=by rfl
theorem de124:ti124.desc=(.slice 191):=by rfl
theorem ze124:ti124.zero=(.c (.snil)):=by rfl
theorem by124:ti124.bytes=24:=by rfl
theorem el124:Jj K 124=some ti191:=by kernel_rfl
theorem ty191:K.types.get 191=some ti191:=by kernel_rfl
theorem sz191:ti191.size=4:=by rfl
theorem ag191:ti191.agg=true:=by rfl
theorem fo191_0:Zt K 191 0=some (0,ti5):=by kernel_rfl
theorem fo191_1:Zt K 191 1=some (1,ti3):=by kernel_rfl
theorem fo191_2:Zt K 191 2=some (2,ti3):=by kernel_rfl
theorem fo191_3:Zt K 191 3=some (3,ti3):=by kernel_rfl
theorem bu191 (ps:List (Nat × W)):Yo K 191 (some ps)=gW (Yd K 191 ps ti191.zero.cells):=by kernel_rfl
theorem ze191:ti191.zero=(.g ([.int .u8 0,.int .i64 0,.int .i64 0,.int .i64 0])):=by rfl
theorem by191:ti191.bytes=32:=by rfl
attribute [go_sem] ty124 sz124 ag124 de124 ze124 by124 el124 ty191 sz191 ag191 fo191_0 fo191_1 fo191_2 fo191_3 bu191 ze191 by191
theorem rs17:Tryz.f17.results.toList=[.tmp 2]:=rfl
attribute [go_sem] rs17
def Zaz (a b c d:Int):Bool:=decide (0≤a)&&decide (0≤b)&&decide (0≤c)&&decide (0≤d)&&Ym a.toNat b.toNat c.toNat d.toNat
theorem Zxs (a b c d:Nat):Zaz a b c d=Ym a b c d:=by
 unfold Zaz
 rw[decide_eq_true (by omega:(0:Int)≤(a:Int)),decide_eq_true (by omega:(0:Int)≤(b:Int)),decide_eq_true (by omega:(0:Int)≤(c:Int)),decide_eq_true (by omega:(0:Int)≤(d:Int))]
 simp only[Bool.true_and,Int.toNat_natCast]
section
variable (Hh:Hearts K Tryz.prog)
include Hh
set_option maxHeartbeats 4000000 in
theorem Z0f (a b c d:Int) (h:Go.Ev.H) (nf:¬(0≤a∧0≤b∧0≤c∧0≤d∧Fine a.toNat b.toNat c.toNat d.toNat)):Zg 16 [.g [.int .i64 a,.int .i64 b,.int .i64 c,.int .i64 d]] h (.w (.c (.bool false))) h:=by
 refine Gt rfl ?_
 by_cases c0:a<1
 ·
  refine Yg Hh Tryz.f16 ?_
  repeat (first|apply Zk|apply Zw|apply Z0|refine Goes.Zi Bo ?_|refine Zq Hh Za Bo ?_)
  exact⟨_,_,Zc,rfl,fun m hm=>by exact Yc⟩
 by_cases c1:4<a
 ·
  refine Yg Hh Tryz.f16 ?_
  repeat (first|apply Zk|apply Zw|apply Z0|refine Goes.Zi Bo ?_|refine Zq Hh Za Bo ?_)
  exact⟨_,_,Zc,rfl,fun m hm=>by exact Yc⟩
 by_cases c2:b<16
 ·
  refine Yg Hh Tryz.f16 ?_
  repeat (first|apply Zk|apply Zw|apply Z0|refine Goes.Zi Bo ?_|refine Zq Hh Za Bo ?_)
  exact⟨_,_,Zc,rfl,fun m hm=>by exact Yc⟩
 by_cases c3:512<b
 ·
  refine Yg Hh Tryz.f16 ?_
  repeat (first|apply Zk|apply Zw|apply Z0|refine Goes.Zi Bo ?_|refine Zq Hh Za Bo ?_)
  exact⟨_,_,Zc,rfl,fun m hm=>by exact Yc⟩
 by_cases c4:c<4
 ·
  refine Yg Hh Tryz.f16 ?_
  repeat (first|apply Zk|apply Zw|apply Z0|refine Goes.Zi Bo ?_|refine Zq Hh Za Bo ?_)
  exact⟨_,_,Zc,rfl,fun m hm=>by exact Yc⟩
 by_cases c5:64<c
 ·
  refine Yg Hh Tryz.f16 ?_
  repeat (first|apply Zk|apply Zw|apply Z0|refine Goes.Zi Bo ?_|refine Zq Hh Za Bo ?_)
  exact⟨_,_,Zc,rfl,fun m hm=>by exact Yc⟩
 obtain⟨c,rfl⟩:=Int.eq_ofNat_of_zero_le (show 0≤c by omega)
 by_cases c6:c % 4≠0
 ·
  refine Yg Hh Tryz.f16 ?_
  repeat (first|apply Zk|apply Zw|apply Z0|refine Goes.Zi Bo ?_|refine Zq Hh Za Bo ?_)
  exact⟨_,_,Zc,rfl,fun m hm=>by exact Yc⟩
 have c6:c % 4=0:=by omega
 by_cases c7:d<40
 ·
  refine Yg Hh Tryz.f16 ?_
  repeat (first|apply Zk|apply Zw|apply Z0|refine Goes.Zi Bo ?_|refine Zq Hh Za Bo ?_)
  exact⟨_,_,Zc,rfl,fun m hm=>by exact Yc⟩
 by_cases c8:256<d
 ·
  refine Yg Hh Tryz.f16 ?_
  repeat (first|apply Zk|apply Zw|apply Z0|refine Goes.Zi Bo ?_|refine Zq Hh Za Bo ?_)
  exact⟨_,_,Zc,rfl,fun m hm=>by exact Yc⟩
 obtain⟨a,rfl⟩:=Int.eq_ofNat_of_zero_le (show 0≤a by omega)
 obtain⟨b,rfl⟩:=Int.eq_ofNat_of_zero_le (show 0≤b by omega)
 obtain⟨d,rfl⟩:=Int.eq_ofNat_of_zero_le (show 0≤d by omega)
 have gm:(a:Int) * (b:Int)=((a * b:Nat):Int):=rfl
 have hm:a * b≤4 * 512:=Nat.mul_le_mul (by omega) (by omega)
 by_cases e1:b<3+c / 4
 ·
  refine Yg Hh Tryz.f16 ?_
  have Jf:=@gm
  repeat (first|apply Zk|apply Zw|apply Z0|refine Goes.Zi J5 ?_|refine Zq Hh Za J5 ?_)
  exact⟨_,_,Zc,rfl,fun m hm=>by exact Yc⟩
 by_cases e2:2048<2+d+a * b
 ·
  refine Yg Hh Tryz.f16 ?_
  have Jf:=@gm
  repeat (first|apply Zk|apply Zw|apply Z0|refine Goes.Zi J5 ?_|refine Zq Hh Za J5 ?_)
  exact⟨_,_,Zc,rfl,fun m hm=>by exact Yc⟩
 refine absurd ⟨by omega,by omega,by omega,by omega,?_⟩ nf
 simp only[Int.toNat_natCast]
 exact⟨by omega,by omega,by omega,by omega,by omega,by omega,by omega,by omega,by omega,by omega,by omega⟩
noncomputable def Z0y:Kn1:=fun args h=>match args with
 | [.g [.int .i64 a,.int .i64 b,.int .i64 c,.int .i64 d]]=>some (.w (.c (.bool (Zaz a b c d))),h)
 | _=>none
theorem Va {args:List W} {h h':Go.Ev.H} {v:V} (e:Z0y args h=some (v,h')):Zg 16 args h v h':=by
 unfold Z0y at e
 split at e
 ·rename_i a b c d
  cases e
  by_cases hp:0≤a∧0≤b∧0≤c∧0≤d
  ·obtain⟨p1,p2,p3,p4⟩:=hp
   obtain⟨a,rfl⟩:=Int.eq_ofNat_of_zero_le p1
   obtain⟨b,rfl⟩:=Int.eq_ofNat_of_zero_le p2
   obtain⟨c,rfl⟩:=Int.eq_ofNat_of_zero_le p3
   obtain⟨d,rfl⟩:=Int.eq_ofNat_of_zero_le p4
   rw[Zxs]
   cases hf:Ym a b c d with
   | true=>exact Z7t Hh (Zv hf) h
   | false=>exact Z0f Hh a b c d h (fun q=>by
     have:=Ztu q.2.2.2.2
     simp only[Int.toNat_natCast] at this
     rw[this] at hf
     cases hf)
  ·have e0:Zaz a b c d=false:=by
    unfold Zaz
    by_cases p1:0≤a
    ·by_cases p2:0≤b
     ·by_cases p3:0≤c
      ·by_cases p4:0≤d
       ·exact absurd ⟨p1,p2,p3,p4⟩ hp
       ·rw[decide_eq_false p4]; simp
      ·rw[decide_eq_false p3]; simp
     ·rw[decide_eq_false p2]; simp
    ·rw[decide_eq_false p1]; simp
   rw[e0]
   exact Z0f Hh a b c d h (fun q=>hp ⟨q.1,q.2.1,q.2.2.1,q.2.2.2.1⟩)
 ·cases e
noncomputable def Zgr:Kn1:=fun args h=>match args with
 | [.g [.int .i64 a,.int .i64 b,.int .i64 c,.int .i64 d]]=>(Uf a).bind fun a=>(Uf b).bind fun b=>(Uf c).bind fun c=>(Uf d).bind fun d=>Y8 (Ym a b c d) (some (.w (.c (.int .i64 ((2+d+a * b:Nat):Int))),h))
 | _=>none
theorem Yb7 (n off len:Nat):Y7 K 124 (.c (.slice n off len 4))=true:=by kernel_rfl
omit Hh in
theorem Z25 {gr sz ino jr:Nat} (F:Fine gr sz ino jr):(Znq gr sz ino jr).length=2+jr+gr * sz:=by
 have h1:∀ a,(grL sz ino a).length=sz:=fun a=>by
  have:=F.fit
  simp only[grL,List.length_append,List.length_cons,List.length_nil,inL,daL,List.length_map,List.length_range]
  omega
 have h2:∀ k,(Oo sz ino k).length=k * sz:=by
  intro k
  induction k with
  | zero=>simp [Oo]
  | succ k ih =>
   have:Oo sz ino (k+1)=Oo sz ino k++grL sz ino k:=by simp [Oo,List.range_succ]
   rw[this,List.length_append,ih,h1,Nat.succ_mul]
 rw[Znq,List.length_append,Zmo,h2]
theorem E5 {args:List W} {h h':Go.Ev.H} {v:V} (e:Zgr args h=some (v,h')):Zg 17 args h v h':=by
 unfold Zgr at e
 split at e
 ·obtain⟨a,ha,e⟩:=Zo e
  obtain⟨b,hb,e⟩:=Zo e
  obtain⟨c,hc,e⟩:=Zo e
  obtain⟨d,hd,e⟩:=Zo e
  obtain⟨f,e⟩:=Zu.1 e
  cases e
  rw[Z9 ha,Z9 hb,Z9 hc,Z9 hd]
  have F:=Zv f
  have c1:=Yb0 Hh F (h.new (.row 4 [Jk a b c d] false))
  rw[Z25 F] at c1
  have fl:=Yb7
  refine Gt rfl ?_
  refine Yg Hh Tryz.f17 ?_
  iterate 3 (first|apply Zk|(apply Goes.ops2 fits Hh Za; · simp (maxSteps:=9^6) +decide (disch:=first|omega|(simp only[lens]<;>omega)|decide) only [go_sem,Zn,Zm,simprocAttr,Jk,fl,read1,Yf,Zr,J3]<;>rfl))
  iterate 2 (first|apply Z0|(apply Goes.ops2 fits Hh (Zp Za c1); · simp (maxSteps:=9^6) +decide (disch:=first|omega|(simp only[lens]<;>omega)|decide) only [go_sem,Zn,Zm,simprocAttr,Ya,Jk,fl,read1,Yf,Zr,J3]<;>rfl))
  exact⟨_,_,Zc,rfl,fun m hm=>by exact Yc⟩
 ·cases e
end
attribute [go_sem] Z0y Zgr
theorem ty24:K.types.get 24=some ti24:=by kernel_rfl
theorem sz24:ti24.size=1:=by rfl
theorem ag24:ti24.agg=false:=by rfl
theorem de24:ti24.desc=(.slice 395):=by rfl
theorem ze24:ti24.zero=(.c (.snil)):=by rfl
theorem by24:ti24.bytes=24:=by rfl
theorem el24:Jj K 24=some ti395:=by kernel_rfl
theorem ty26:K.types.get 26=some ti26:=by kernel_rfl
theorem sz26:ti26.size=6:=by rfl
theorem ag26:ti26.agg=true:=by rfl
theorem fo26_0:Zt K 26 0=some (0,ti23):=by kernel_rfl
theorem fo26_1:Zt K 26 1=some (4,ti5):=by kernel_rfl
theorem fo26_2:Zt K 26 2=some (5,ti24):=by kernel_rfl
theorem bu26 (ps:List (Nat × W)):Yo K 26 (some ps)=gW (Yd K 26 ps ti26.zero.cells):=by kernel_rfl
theorem ze26:ti26.zero=(.g ([.int .i64 0,.int .i64 0,.int .i64 0,.int .i64 0,.int .u8 0,.snil])):=by rfl
theorem by26:ti26.bytes=64:=by rfl
theorem ty395:K.types.get 395=some ti395:=by kernel_rfl
theorem sz395:ti395.size=3:=by rfl
theorem ag395:ti395.agg=true:=by rfl
theorem fo395_0:Zt K 395 0=some (0,ti3):=by kernel_rfl
theorem fo395_1:Zt K 395 1=some (1,ti3):=by kernel_rfl
theorem fo395_2:Zt K 395 2=some (2,ti5):=by kernel_rfl
theorem bu395 (ps:List (Nat × W)):Yo K 395 (some ps)=gW (Yd K 395 ps ti395.zero.cells):=by kernel_rfl
theorem ze395:ti395.zero=(.g ([.int .i64 0,.int .i64 0,.int .u8 0])):=by rfl
theorem by395:ti395.bytes=24:=by rfl
attribute [go_sem] ty24 sz24 ag24 de24 ze24 by24 el24 ty26 sz26 ag26 fo26_0 fo26_1 fo26_2 bu26 ze26 by26 ty395 sz395 ag395 fo395_0 fo395_1 fo395_2 bu395 ze395 by395
theorem rs6:Tryz.f6.results.toList=[.tmp 2]:=rfl
attribute [go_sem] rs6
def Zwn (a b c d md len:Int):Bool:=Zaz a b c d&&decide (2+d+a * b≤400)&&decide (1≤md)&&decide (md≤3)&&decide (len≤20)
section
variable (Hh:Hearts K Tryz.prog)
include Hh
theorem Z2k {S:C} {len:Int} (lf:Y7 K 24 (.c S)=true) (hln:∀ h,J3 K h 24 (.c S)=some (.int .i64 len)) (a b c d md:Int) (h:Go.Ev.H):Zg 6 [.g [.int .i64 a,.int .i64 b,.int .i64 c,.int .i64 d,.int .u8 md,S]] h (.w (.c (.bool (Zwn a b c d md len)))) h:=by
 have r6:Zn 6 [[.int .i64 a,.int .i64 b,.int .i64 c,.int .i64 d,.int .u8 md,S]] 0 4=some [.int .i64 a,.int .i64 b,.int .i64 c,.int .i64 d]:=rfl
 refine Gt rfl ?_
 unfold Zwn
 rcases hf:Zaz a b c d with _|_
 ·
  refine Yg Hh Tryz.f6 ?_
  have Jf:=Uq @hf @r6 @lf @hln
  repeat (first|apply Zk|apply Z0|refine Zq Hh (EY (EY Za (Va Hh)) (E5 Hh)) Y5 ?_)
  exact⟨_,_,Yn,rfl,fun m hm=>by exact Yc⟩
 ·have hf':=hf
  unfold Zaz at hf'
  simp only[Bool.and_eq_true,decide_eq_true_eq] at hf'
  obtain⟨⟨⟨⟨p1,p2⟩,p3⟩,p4⟩,fb⟩:=hf'
  obtain⟨a,rfl⟩:=Int.eq_ofNat_of_zero_le p1
  obtain⟨b,rfl⟩:=Int.eq_ofNat_of_zero_le p2
  obtain⟨c,rfl⟩:=Int.eq_ofNat_of_zero_le p3
  obtain⟨d,rfl⟩:=Int.eq_ofNat_of_zero_le p4
  simp only[Int.toNat_natCast] at fb
  have gm:2+(d:Int)+(a:Int) * (b:Int)=((2+d+a * b:Nat):Int):=rfl
  rw[gm]
  by_cases c1:((2+d+a * b:Nat):Int)≤400
  ·by_cases c2:1≤md
   ·by_cases c3:md≤3
    ·by_cases c4:len≤20
     ·
      refine Yg Hh Tryz.f6 ?_
      have Jf:=U1 @hf @fb @r6 @lf @hln
      repeat (first|apply Zk|apply Z0|refine Zq Hh (EY (EY Za (Va Hh)) (E5 Hh)) Y5 ?_)
      exact⟨_,_,Yn,by rw[decide_eq_true c1,decide_eq_true c2,decide_eq_true c3,decide_eq_true c4]<;>rfl,fun m hm=>by exact Yc⟩
     ·
      refine Yg Hh Tryz.f6 ?_
      have Jf:=U1 @hf @fb @r6 @lf @hln
      repeat (first|apply Zk|apply Z0|refine Zq Hh (EY (EY Za (Va Hh)) (E5 Hh)) Y5 ?_)
      exact⟨_,_,Yn,by rw[decide_eq_true c1,decide_eq_true c2,decide_eq_true c3,decide_eq_false c4]<;>rfl,fun m hm=>by exact Yc⟩
    ·
     refine Yg Hh Tryz.f6 ?_
     have Jf:=U1 @hf @fb @r6 @lf @hln
     repeat (first|apply Zk|apply Z0|refine Zq Hh (EY (EY Za (Va Hh)) (E5 Hh)) Y5 ?_)
     exact⟨_,_,Yn,by rw[decide_eq_true c1,decide_eq_true c2,decide_eq_false c3]<;>rfl,fun m hm=>by exact Yc⟩
   ·
    refine Yg Hh Tryz.f6 ?_
    have Jf:=U1 @hf @fb @r6 @lf @hln
    repeat (first|apply Zk|apply Z0|refine Zq Hh (EY (EY Za (Va Hh)) (E5 Hh)) Y5 ?_)
    exact⟨_,_,Yn,by rw[decide_eq_true c1,decide_eq_false c2]<;>rfl,fun m hm=>by exact Yc⟩
  ·
   refine Yg Hh Tryz.f6 ?_
   have Jf:=U1 @hf @fb @r6 @lf @hln
   repeat (first|apply Zk|apply Z0|refine Zq Hh (EY (EY Za (Va Hh)) (E5 Hh)) Y5 ?_)
   exact⟨_,_,Yn,by rw[decide_eq_false c1]<;>rfl,fun m hm=>by exact Yc⟩
end
end Go.Proofs.YtecakmodlkbnaaaGreatDoor
set_option maxRecDepth 100000
namespace Go.Proofs.YtecakmodlkbnaaaGreatDoor
open Go.Ev
def Zvh (a b c d:Nat):Bool:=Nat.ble 1 a&&Nat.ble a 4&&Nat.ble 16 b&&Nat.ble b 512&&Nat.ble 4 c&&Nat.ble c 64&&Nat.beq (c % 4) 0&&Nat.ble 40 d&&Nat.ble d 256&&Nat.ble (3+c / 4) b&&Nat.ble (2+d+a * b) 2048
theorem Zsj {a b c d:Nat} (h:Zvh a b c d=true):Fine a b c d:=by
 simp only[Zvh,Bool.and_eq_true] at h
 obtain⟨⟨⟨⟨⟨⟨⟨⟨⟨⟨h1,h2⟩,h3⟩,h4⟩,h5⟩,h6⟩,h7⟩,h8⟩,h9⟩,h10⟩,h11⟩:=h
 exact⟨Nat.le_of_ble_eq_true h1,Nat.le_of_ble_eq_true h2,Nat.le_of_ble_eq_true h3,Nat.le_of_ble_eq_true h4,Nat.le_of_ble_eq_true h5,Nat.le_of_ble_eq_true h6,Nat.eq_of_beq_eq_true h7,Nat.le_of_ble_eq_true h8,Nat.le_of_ble_eq_true h9,Nat.le_of_ble_eq_true h10,Nat.le_of_ble_eq_true h11⟩
def Ycj (h:Go.Ev.H) (p:Nat × Nat × Nat):Option (V × Go.Ev.H):=some (.tup [.c (.int .u8 (p.1:Nat)),.c (.int .i64 (p.2.1:Nat)),.c (.int .i64 (p.2.2:Nat))],h)
def Z2h (args:List W) (h:Go.Ev.H):Option (V × Go.Ev.H):=match args with
 | [.g [.int .i64 (.ofNat a),.int .i64 (.ofNat b),.int .i64 (.ofNat c),.int .i64 (.ofNat d)],.c (.int .i64 (.ofNat n))]=>bif Zvh a b c d&&Nat.blt n 9223372036854775808 then Ycj h (U7 a b c d n) else none
 | _=>none
section
variable (Hh:Hearts K Tryz.prog)
include Hh
theorem Z3k {args:List W} {h h':Go.Ev.H} {v:V} (e:Z2h args h=some (v,h')):Zg 142 args h v h':=by
 unfold Z2h at e
 split at e
 ·rename_i a b c d n
  cases hb:(Zvh a b c d&&Nat.blt n 9223372036854775808) with
  | false=>rw[hb] at e; cases e
  | true =>
   rw[hb] at e
   simp only[Bool.and_eq_true] at hb
   cases e
   exact Zoa Hh (Zsj hb.1) h n (by simpa [Nat.blt_eq] using hb.2)
 ·cases e
end
noncomputable def Z9i:Kn1:=fun args h=>match args with
 | [.c (.ptr p 0),.c (.int .i64 i)]=>(Uf i).bind fun i=>(Ei h p).bind fun x=>Y8 (decide (i<64)) (some (.w (.c (.int .i64 ((Yk (unN x) (4 * i):Nat):Int))),h))
 | _=>none
section
variable (Hh:Hearts K Tryz.prog)
include Hh
theorem Z5k {args:List W} {h h':Go.Ev.H} {v:V} (e:Z9i args h=some (v,h')):Zg 182 args h v h':=by
 unfold Z9i at e
 split at e
 ·rename_i p i
  obtain⟨i,hi,e⟩:=Zo e
  obtain⟨x,hx,e⟩:=Zo e
  obtain⟨ns,rfl,nl,hp⟩:=Js hx
  obtain⟨b,e⟩:=Zu.1 e
  rw[Od,R6] at e
  cases e
  rw[Z9 hi]
  exact Yb3 Hh nl hp (of_decide_eq_true b)
 ·cases e
end
noncomputable def x28:Kn:=fun f args h=>bif Nat.beq f 83 then xIB args h else bif Nat.beq f 182 then Z9i args h else bif Nat.beq f 142 then Z2h args h else x3 f args h
section
variable (Hh:Hearts K Tryz.prog)
include Hh
theorem Z72:Zev K Tryz.prog x28:=by
 intro f args h v h' e
 unfold x28 at e
 cases h0:Nat.beq f 83 with
 | true =>
  rw[h0] at e
  obtain rfl:=Nat.eq_of_beq_eq_true h0
  exact Zbm e
 | false =>
  rw[h0] at e
  cases h1:Nat.beq f 182 with
  | true =>
   rw[h1] at e
   obtain rfl:=Nat.eq_of_beq_eq_true h1
   exact Z5k Hh e
  | false =>
   rw[h1] at e
   cases h2:Nat.beq f 142 with
   | true =>
    rw[h2] at e
    obtain rfl:=Nat.eq_of_beq_eq_true h2
    exact Z3k Hh e
   | false =>
    rw[h2] at e
    exact Zvw Hh f args h v h' e
end
end Go.Proofs.YtecakmodlkbnaaaGreatDoor
