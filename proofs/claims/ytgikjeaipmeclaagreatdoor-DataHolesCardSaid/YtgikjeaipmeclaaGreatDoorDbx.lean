/- data.fill: a piece of what is written goes into its block. -/
import Derived.Test.YtgikjeaipmeclaaGreatDoorDbl
import Derived.Test.YtgikjeaipmeclaaGreatDoorMpd
import Derived.Test.YtgikjeaipmeclaaGreatDoorMpy
set_option linter.unusedSimpArgs false
set_option linter.unusedVariables false
set_option linter.unusedSectionVars false
set_option maxRecDepth 100000
set_option maxHeartbeats 4000000
namespace Go.Proofs.YtgikjeaipmeclaaGreatDoor
open Go.Ev
theorem ty62:K.types.get 62=some ti62:=by kernel_rfl
theorem sz62:ti62.size=4:=by rfl
theorem ag62:ti62.agg=true:=by rfl
theorem fo62_0:Zn K 62 0=some (0,ti3):=by kernel_rfl
theorem fo62_1:Zn K 62 1=some (1,ti3):=by kernel_rfl
theorem fo62_2:Zn K 62 2=some (2,ti3):=by kernel_rfl
theorem fo62_3:Zn K 62 3=some (3,ti3):=by kernel_rfl
theorem bu62 (ps:List (Nat × W)):Yc K 62 (some ps)=gW (Z9 K 62 ps ti62.zero.cells):=by kernel_rfl
theorem ze62:ti62.zero=(.g ([.int .i64 0,.int .i64 0,.int .i64 0,.int .i64 0])):=by rfl
theorem by62:ti62.bytes=32:=by rfl
theorem ty65:K.types.get 65=some ti65:=by kernel_rfl
theorem sz65:ti65.size=2:=by rfl
theorem ag65:ti65.agg=true:=by rfl
theorem fo65_0:Zn K 65 0=some (0,ti3):=by kernel_rfl
theorem fo65_1:Zn K 65 1=some (1,ti4):=by kernel_rfl
theorem bu65 (ps:List (Nat × W)):Yc K 65 (some ps)=gW (Z9 K 65 ps ti65.zero.cells):=by kernel_rfl
theorem ze65:ti65.zero=(.g ([.int .i64 0,.bool false])):=by rfl
theorem by65:ti65.bytes=16:=by rfl
attribute [go_sem] ty62 sz62 ag62 fo62_0 fo62_1 fo62_2 fo62_3 bu62 ze62 by62 ty65 sz65 ag65 fo65_0 fo65_1 bu65 ze65 by65
theorem rs16:Tryz.f16.results.toList=[.tmp 10]:=rfl
attribute [go_sem] rs16
def bsE (w:List Nat):List (List C):=w.map fun n=>[.int .u8 ((n % 256:Nat):Int)]
theorem V7 (w:List Nat):(bsE w).length=w.length:=by simp [bsE]
theorem Zkv:∀ w:List Nat,(bsE w).flatten=pgL w
 | []=>rfl
 | n :: w=>congrArg (C.int .u8 ((n % 256:Nat):Int) :: ·) (Zkv w)
def cpN (ns:List Nat) (f:Nat) (xs:List Nat):List Nat:=ns.take f++(xs++ns.drop (f+xs.length))
theorem Qp {ns xs:List Nat} {f:Nat} (h:f+xs.length≤ns.length):(cpN ns f xs).length=ns.length:=by
 simp only[cpN,List.length_append,List.length_take,List.length_drop]; omega
theorem Zzx {ns xs:List Nat} {f:Nat} (nl:ns.length=256) (h:f+xs.length≤256) (x0:0<xs.length):Z4 256 [pgL ns] f (pgL xs)=some [pgL (cpN ns f xs)]:=by
 have e:pgL (cpN ns f xs)=(pgL ns).take f++pgL xs++(pgL ns).drop (f+xs.length):=by simp only[cpN,pgL,List.map_append,List.map_take,List.map_drop,List.append_assoc]
 rw[e]
 match xs,x0 with
 | [x],_ =>
  have f2:f<256:=by simp only[List.length_cons,List.length_nil] at h; omega
  simp only[Z4,pgL,List.map_cons,List.map_nil]
  rw[Nat.div_eq_of_lt f2,Nat.mod_eq_of_lt f2,List.getElem?_cons_zero]
  have b:Nat.blt f (List.map (fun n=>C.int .u8 ((n % 256:Nat):Int)) ns).length=true:=by rw[List.length_map,nl]; exact Nat.ble_eq_true_of_le f2
  simp only[b,cond_true,List.set_cons_zero]
  rw[List.set_eq_take_append_cons_drop,if_pos (by rw[List.length_map,nl]; exact f2)]
  simp
 | x :: y :: r,_ =>
  simp only[List.length_cons] at h
  simp only[Z4,pgL,List.map_cons]
  rw[Nat.div_eq_of_lt (by omega),Nat.mod_eq_of_lt (by omega),List.getElem?_cons_zero]
  simp only[List.length_map,List.length_cons,nl]
  rw[Mf (by omega),cond_true]
  rfl
theorem Zt9 {h:Go.Ev.H} {te:TI} {b m f k a l:Nat} {ns w:List Nat} {ro:Bool} (t1:te.size=1) (hb:h.get b=some (.row 256 [pgL ns] false)) (hm:h.get m=some (.row 1 (bsE w) ro)) (nl:ns.length=256) (k0:0<k) (fk:f+k≤256) (ak:a+k≤w.length) (kl:k≤l) :
  Rz h (some te) (.slice b f k 1) (.slice m a l 1)=some (.w (.c (.int .i64 (k:Int))),h.put b (.row 256 [pgL (cpN ns f ((w.drop a).take k))] false)):=by
 have xl:((w.drop a).take k).length=k:=by rw[List.length_take,List.length_drop]; omega
 have e:((bsE w).drop a).take k=bsE ((w.drop a).take k):=by simp only[bsE,List.map_take,List.map_drop]
 have n0:Nat.beq k 0=false:=by cases k with
  | zero=>omega
  | succ k=>rfl
 have rm:Bc 1 (bsE w) a 1 k=some (bsE ((w.drop a).take k)):=by
  unfold Bc
  rw[n0,cond_false,Vp,cond_true,Nat.mod_one,Nat.div_one,V7,Mf ak,e]
  rfl
 have wm:Eo 256 [pgL ns] f 1 (bsE ((w.drop a).take k))=some [pgL (cpN ns f ((w.drop a).take k))]:=by
  have w2:=Zzx (ns:=ns) (xs:=(w.drop a).take k) (f:=f) nl (by omega) (by omega)
  rw[←Zkv ((w.drop a).take k)] at w2
  obtain⟨X,hX⟩:∃ X,bsE ((w.drop a).take k)=X:=⟨_,rfl⟩
  have Xl:X.length=k:=by rw[←hX,V7,xl]
  rw[hX] at w2 ⊢
  match X,Xl with
  | [],x=>rw[List.length_nil] at x; omega
  | x :: X,_=>exact w2
 simp only[Rz,Zf2,Nat.min_eq_right kl,n0,cond_false,t1,Vp,cond_true,Ziv,Jn,Zbb,hm,Sb,rm,Zij,hb,wm]
theorem p40 (a b c d:C):read1 4 [[a,b,c,d]] 0=some a:=rfl
theorem p41 (a b c d:C):read1 4 [[a,b,c,d]] 1=some b:=rfl
theorem p42 (a b c d:C):read1 4 [[a,b,c,d]] 2=some c:=rfl
theorem p43 (a b c d:C):read1 4 [[a,b,c,d]] 3=some d:=rfl
theorem p20 (a b:C):read1 2 [[a,b]] 0=some a:=rfl
theorem p21 (a b:C):read1 2 [[a,b]] 1=some b:=rfl
theorem tA1 (x:Go.Operand):(some x).toArray.toList=[x]:=rfl
theorem tA0:(none:Option Go.Operand).toArray.toList=[]:=rfl
theorem X9 (n off len sz:Nat):Yy K 32 (.slice n off len sz)=true:=by unfold Yy; rw[show K.types.get 32=some ti32 by kernel_rfl]; rfl
section
variable (Hh:Hearts K Tryz.prog)
include Hh
variable {n q a b c e:Nat} {cr:Cr} {md:Int} {S T:List Nat} {V:Nat→List Nat} {h:Go.Ev.H} {m:Nat}
theorem Zxi (fb:Y4 a b c e=true) (M:HE n q a b c e cr md S T V h) {z:Nat} (oz:O6 a b c e (z:Int)=true) (zl:z<2+e+a * b) (zs:z∈S) (zt:md=3→z ∉ T) {size ix:Int} {f t at_ l ba:Nat} {w:List Nat} (ft:f<t) (t8:t≤256) (al:at_+(t - f)≤l) (hm:h.get m=some (.row 1 (bsE w) false)) (mm:q+9≤m∧m<h.next) (wl:ba+l≤w.length) :
  ∃ h',Ze K Tryz.prog 16 [.c (.ptr (n+13) 0),.c (.int .i64 size),.g [.int .i64 (z:Int),.bool true],.g [.int .i64 ix,.int .i64 (f:Int),.int .i64 (t:Int),.int .i64 (at_:Int)],.c (.slice m ba l 1)] h (.w (.c (.int .i64 0))) h'∧HE n q a b c e cr md S (Bi md T z) (Gn V z (cpN zer0 f ((w.drop (ba+at_)).take (t - f)))) h'∧Kp n q h h':=by
 obtain⟨nq,nx,n0⟩:=M.nx
 have kl:((w.drop (ba+at_)).take (t - f)).length=t - f:=by rw[List.length_take,List.length_drop]; omega
 have cl:(cpN zer0 f ((w.drop (ba+at_)).take (t - f))).length=256:=by rw[Qp (by rw[kl,Ea]; omega),Ea]
 have cp:=fun {h:Go.Ev.H} {te:TI} {p:Nat} (t1:te.size=1) (hb:h.get p=some (.row 256 [pgL zer0] false)) (hm:h.get m=some (.row 1 (bsE w) false))=>Zt9 (f:=f) (k:=t - f) (a:=ba+at_) (l:=l - at_) t1 hb hm Ea (by omega) (by omega) (by omega) (by omega)
 obtain⟨X,hX⟩:∃ X,cpN zer0 f ((w.drop (ba+at_)).take (t - f))=X:=⟨_,rfl⟩
 rw[hX] at cp cl ⊢
 have Xl:(pgL X).length=256:=by rw[Ug,cl]
 have r5:read1 256 [pgL zer0] 255=some (.int .u8 ((atN zer0 255:Nat):Int)):=Zhz ⟨by decide,by rw[Ea]; omega⟩
 have zl2:(pgL zer0).length=256:=by rw[Ug,Ea]
 obtain⟨v,h',cc,rfl,r1,r2⟩:∃ v h',Ze K Tryz.prog 16 [.c (.ptr (n+13) 0),.c (.int .i64 size),.g [.int .i64 (z:Int),.bool true],.g [.int .i64 ix,.int .i64 (f:Int),.int .i64 (t:Int),.int .i64 (at_:Int)],.c (.slice m ba l 1)] h v h'∧v=.w (.c (.int .i64 0))∧HE n q a b c e cr md S (Bi md T z) (Gn V z X) h'∧Kp n q h h':=by
  refine Ze.Yi fits Hh (by kernel_rfl) (by kernel_rfl) (by kernel_rfl) (show Tryz.f16.body=some _ from rfl) rfl ?_
  iterate 6 (first|apply Goes.seq|(apply Goes.ops2 fits Hh Zc; · simp (maxSteps:=9^6) +decide (disch:=first|omega|(simp only[lens]<;>omega)|decide) only [go_sem,Za,simprocAttr,X9,tA1,tA0,List.append_assoc,List.cons_append,r5,zl2,p40,p41,p42,p43,p20,p21,Xl,cp,Zx,Y0,Uc,bound,Ui,reaches,Gx,Nat.add_zero,Nat.zero_add,Nat.mul_one]<;>rfl))
  refine Goes.abs fun h1 e1=>?_
  have n1:h1.next=h.next+1+1+1:=by rw[e1]; simp only[H.Zj,H.Zg]
  have k1:∀ m,m<h.next→h1.get m=h.get m:=fun m hm=>by rw[e1]; simp (disch:=first|omega|(simp only[lens]<;>omega)) only [go_sem]
  have a0:h1.get h.next=some (.row 2 [[.int .i64 (z:Int),.bool true]] false):=by rw[e1]; simp (maxSteps:=9^6) +decide (disch:=first|omega|(simp only[lens]<;>omega)|decide) only [go_sem,Zb,Za,simprocAttr]<;>rfl
  have a1:h1.get (h.next+1)=some (.row 4 [[.int .i64 ix,.int .i64 (f:Int),.int .i64 (t:Int),.int .i64 (at_:Int)]] false):=by rw[e1]; simp (maxSteps:=9^6) +decide (disch:=first|omega|(simp only[lens]<;>omega)|decide) only [go_sem,Zb,Za,simprocAttr]<;>rfl
  have a2:h1.get (h.next+1+1)=some (.row 256 [pgL zer0] false):=by rw[e1,Zhs]; simp (maxSteps:=9^6) +decide (disch:=first|omega|(simp only[lens]<;>omega)|decide) only [go_sem,Zb,Za,simprocAttr]<;>rfl
  clear e1
  have am:=(k1 m (by omega)).trans hm
  iterate 6 (first|apply Goes.seq|apply Goes.skip|((first|apply Goes.Zm|apply Goes.ops2 fits Hh Zc); · simp (maxSteps:=9^6) +decide (disch:=first|omega|(simp only[lens]<;>omega)|decide) only [go_sem,Za,simprocAttr,X9,tA1,tA0,List.append_assoc,List.cons_append,r5,zl2,p40,p41,p42,p43,p20,p21,Xl,cp,a0,a1,a2,am,n1,Zx,Y0,Uc,bound,Ui,reaches,Gx,Nat.add_zero,Nat.zero_add,Nat.mul_one]<;>rfl)|(apply Goes.drawn2 fits Hh Zc (by kernel_rfl); · simp (maxSteps:=9^6) +decide (disch:=first|omega|(simp only[lens]<;>omega)|decide) only [go_sem,Za,simprocAttr,drG,X9,tA1,tA0,List.append_assoc,List.cons_append,r5,zl2,p40,p41,p42,p43,p20,p21,Xl,cp,a0,a1,a2,am,n1,Zx,Y0,Uc,bound,Ui,reaches,Gx,Nat.add_zero,Nat.zero_add,Nat.mul_one]<;>rfl))
  refine Goes.abs fun hA eA=>?_
  have nA:hA.next=h.next+1+1+1:=by rw[eA,←n1]; simp only[H.Zj]
  have kA:∀ m,m<h.next→hA.get m=h.get m:=fun m hm=>by rw[eA]; refine Eq.trans ?_ (k1 m hm); simp (disch:=first|omega|(simp only[lens]<;>omega)) only [go_sem]
  have b0:hA.get h.next=some (.row 2 [[.int .i64 (z:Int),.bool true]] false):=by rw[eA]; simp (maxSteps:=9^6) +decide (disch:=first|omega|(simp only[lens]<;>omega)|decide) only [go_sem,Zb,Za,simprocAttr,a0]
  have b2:hA.get (h.next+1+1)=some (.row 256 [pgL X] false):=by rw[eA]; simp (maxSteps:=9^6) +decide (disch:=first|omega|(simp only[lens]<;>omega)|decide) only [go_sem,Zb,Za,simprocAttr]
  clear eA
  obtain⟨hB,eB,MB,nB,kB⟩:=(M.keep (h2:=hA) (by omega) fun p hp=>kA p (by omega)).Z24 fb oz zl cl zs zt
  have c9:=Q8 Hh eB
  iterate 2 (first|apply Goes.ret|(apply Goes.ops2 fits Hh (Zt Zc c9); · simp (maxSteps:=9^6) +decide (disch:=first|omega|(simp only[lens]<;>omega)|decide) only [go_sem,Za,simprocAttr,Zy,X9,tA1,tA0,List.append_assoc,List.cons_append,r5,zl2,p40,p41,p42,p43,p20,p21,Xl,cp,a0,a1,a2,am,n1,b0,b2,Zx,Y0,Uc,bound,Ui,reaches,Gx,Nat.add_zero,Nat.zero_add,Nat.mul_one]<;>rfl))
  exact⟨_,_,(by simp (maxSteps:=9^6) +decide (disch:=first|omega|(simp only[lens]<;>omega)|decide) only [go_sem,Zb,Za,simprocAttr]<;>rfl),rfl,MB,⟨by omega,fun m hm ho=>(kB m ho).trans (kA m hm)⟩⟩
 exact⟨h',cc,r1,r2⟩
theorem Zx8 (fb:Y4 a b c e=true) (M:HE n q a b c e cr md S T V h) {z:Nat} (oz:O6 a b c e (z:Int)=true) (zl:z<2+e+a * b) (zs:z∈S) (zt:md=3→z ∉ T) {size x cu f t at_ l ba:Nat} {w:List Nat} (sx:size=x * 256+cu) (s2:size≤16777216) (c0:0<cu) (c8:cu<256) (ft:f<t) (t8:t≤256) (al:at_+(t - f)≤l) (hm:h.get m=some (.row 1 (bsE w) false)) (mm:q+9≤m∧m<h.next) (wl:ba+l≤w.length) :
  ∃ h',Ze K Tryz.prog 16 [.c (.ptr (n+13) 0),.c (.int .i64 (size:Int)),.g [.int .i64 (z:Int),.bool false],.g [.int .i64 (x:Int),.int .i64 (f:Int),.int .i64 (t:Int),.int .i64 (at_:Int)],.c (.slice m ba l 1)] h (.w (.c (.int .i64 0))) h'∧HE n q a b c e cr md S (Bi md T z) (Gn V z (cpN (cpN (V z) cu (List.replicate (256 - cu) 0)) f ((w.drop (ba+at_)).take (t - f)))) h'∧Kp n q h h':=by
 obtain⟨nq,nx,n0⟩:=M.nx
 have kl:((w.drop (ba+at_)).take (t - f)).length=t - f:=by rw[List.length_take,List.length_drop]; omega
 have nl:=M.len oz zl
 have yl:(cpN (V z) cu (List.replicate (256 - cu) 0)).length=256:=by rw[Qp (by rw[List.length_replicate,nl]; omega),nl]
 have clr:Z4 256 [pgL (V z)] cu (List.replicate (256 - cu) (.int .u8 0))=some [pgL (cpN (V z) cu (List.replicate (256 - cu) 0))]:=by
  have e:List.replicate (256 - cu) (C.int .u8 0)=pgL (List.replicate (256 - cu) 0):=by simp [pgL]
  rw[e]
  exact Zzx nl (by rw[List.length_replicate]; omega) (by rw[List.length_replicate]; omega)
 have bl:Nat.blt 0 (256 - cu)=true:=Nat.ble_eq_true_of_le (by omega)
 obtain⟨Y,hY⟩:∃ Y,cpN (V z) cu (List.replicate (256 - cu) 0)=Y:=⟨_,rfl⟩
 rw[hY] at yl clr ⊢
 have cl:(cpN Y f ((w.drop (ba+at_)).take (t - f))).length=256:=by rw[Qp (by rw[kl,yl]; omega),yl]
 have cp:=fun {h:Go.Ev.H} {te:TI} {p:Nat} (t1:te.size=1) (hb:h.get p=some (.row 256 [pgL Y] false)) (hm:h.get m=some (.row 1 (bsE w) false))=>Zt9 (f:=f) (k:=t - f) (a:=ba+at_) (l:=l - at_) t1 hb hm yl (by omega) (by omega) (by omega) (by omega)
 obtain⟨X,hX⟩:∃ X,cpN Y f ((w.drop (ba+at_)).take (t - f))=X:=⟨_,rfl⟩
 rw[hX] at cp cl ⊢
 have Xl:(pgL X).length=256:=by rw[Ug,cl]
 have Yl:(pgL Y).length=256:=by rw[Ug,yl]
 have Vl:(pgL (V z)).length=256:=by rw[Ug,nl]
 have r5:read1 256 [pgL (V z)] 255=some (.int .u8 ((atN (V z) 255:Nat):Int)):=Zhz ⟨by decide,by omega⟩
 have r6:read1 256 [pgL Y] 255=some (.int .u8 ((atN Y 255:Nat):Int)):=Zhz ⟨by decide,by omega⟩
 have zl2:(pgL zer0).length=256:=by rw[Ug,Ea]
 have u1:(x:Int) * 256=((x * 256:Nat):Int):=rfl
 have u2:(size:Int) - ((x * 256:Nat):Int)=(cu:Int):=by omega
 have u3:(if (cu:Int) > 0 then (cu:Int) else 0)=(cu:Int):=if_pos (by omega)
 have u4:(if (cu:Int)<256 then (cu:Int) else 256)=(cu:Int):=if_pos (by omega)
 obtain⟨v,h',cc,rfl,r1,r2⟩:∃ v h',Ze K Tryz.prog 16 [.c (.ptr (n+13) 0),.c (.int .i64 (size:Int)),.g [.int .i64 (z:Int),.bool false],.g [.int .i64 (x:Int),.int .i64 (f:Int),.int .i64 (t:Int),.int .i64 (at_:Int)],.c (.slice m ba l 1)] h v h'∧v=.w (.c (.int .i64 0))∧HE n q a b c e cr md S (Bi md T z) (Gn V z X) h'∧Kp n q h h':=by
  refine Ze.Yi fits Hh (by kernel_rfl) (by kernel_rfl) (by kernel_rfl) (show Tryz.f16.body=some _ from rfl) rfl ?_
  iterate 6 (first|apply Goes.seq|(apply Goes.ops2 fits Hh Zc; · simp (maxSteps:=9^6) +decide (disch:=first|omega|(simp only[lens]<;>omega)|decide) only [go_sem,Za,simprocAttr,X9,tA1,tA0,List.append_assoc,List.cons_append,r5,r6,zl2,p40,p41,p42,p43,p20,p21,Xl,Yl,Vl,cp,clr,bl,u1,u2,u3,u4,Zx,Y0,Uc,bound,Ui,reaches,Gx,Zh,Ms,Wl,Rv,Nat.add_zero,Nat.zero_add,Nat.mul_one]<;>rfl))
  refine Goes.abs fun h1 e1=>?_
  have n1:h1.next=h.next+1+1+1:=by rw[e1]; simp only[H.Zj,H.Zg]
  have k1:∀ m,m<h.next→h1.get m=h.get m:=fun m hm=>by rw[e1]; simp (disch:=first|omega|(simp only[lens]<;>omega)) only [go_sem]
  have a0:h1.get h.next=some (.row 2 [[.int .i64 (z:Int),.bool false]] false):=by rw[e1]; simp (maxSteps:=9^6) +decide (disch:=first|omega|(simp only[lens]<;>omega)|decide) only [go_sem,Zb,Za,simprocAttr]<;>rfl
  have a1:h1.get (h.next+1)=some (.row 4 [[.int .i64 (x:Int),.int .i64 (f:Int),.int .i64 (t:Int),.int .i64 (at_:Int)]] false):=by rw[e1]; simp (maxSteps:=9^6) +decide (disch:=first|omega|(simp only[lens]<;>omega)|decide) only [go_sem,Zb,Za,simprocAttr]<;>rfl
  have a2:h1.get (h.next+1+1)=some (.row 256 [pgL zer0] false):=by rw[e1,Zhs]; simp (maxSteps:=9^6) +decide (disch:=first|omega|(simp only[lens]<;>omega)|decide) only [go_sem,Zb,Za,simprocAttr]<;>rfl
  clear e1
  obtain⟨hG,eG,MG,nG,rG⟩:=(M.keep (h2:=h1) (by omega) fun p hp=>k1 p (by omega)).get fb oz zl
  have c3:=D7 Hh eG
  have g0:=(rG _ (by omega) (by omega)).trans a0
  have g1:=(rG _ (by omega) (by omega)).trans a1
  have g2:=(rG _ (by omega) (by omega)).trans a2
  have gm:=(rG _ (by omega) (by omega)).trans ((k1 m (by omega)).trans hm)
  rw[n1] at nG
  iterate 3 (first|apply Goes.seq|((first|apply Goes.Zm|apply Goes.ops2 fits Hh Zc); · simp (maxSteps:=9^6) +decide (disch:=first|omega|(simp only[lens]<;>omega)|decide) only [go_sem,Za,simprocAttr,X9,tA1,tA0,List.append_assoc,List.cons_append,r5,r6,zl2,p40,p41,p42,p43,p20,p21,Xl,Yl,Vl,cp,clr,bl,u1,u2,u3,u4,a0,g0,g1,g2,gm,nG,Zx,Y0,Uc,bound,Ui,reaches,Gx,Zh,Ms,Wl,Rv,Nat.add_zero,Nat.zero_add,Nat.mul_one]<;>rfl))
  iterate 10 (first|apply Goes.seq|apply Goes.skip|((first|apply Goes.Zm|apply Goes.ops2 fits Hh (Zt Zc c3)); · simp (maxSteps:=9^6) +decide (disch:=first|omega|(simp only[lens]<;>omega)|decide) only [go_sem,Za,simprocAttr,Zy,X9,tA1,tA0,List.append_assoc,List.cons_append,r5,r6,zl2,p40,p41,p42,p43,p20,p21,Xl,Yl,Vl,cp,clr,bl,u1,u2,u3,u4,a0,g0,g1,g2,gm,nG,Zx,Y0,Uc,bound,Ui,reaches,Gx,Zh,Ms,Wl,Rv,Nat.add_zero,Nat.zero_add,Nat.mul_one]<;>rfl))
  refine Goes.abs fun hE eE=>?_
  have nE:hE.next=h.next+1+1+1+1:=by rw[eE,←nG]; simp only[H.Zj,H.Zg]
  have kE:∀ p,p<h.next+1+1→hE.get p=hG.get p:=fun p hp=>by rw[eE]; simp (disch:=first|omega|(simp only[lens]<;>omega)) only [go_sem]
  have d0:=(kE h.next (by omega)).trans g0
  have d1:=(kE (h.next+1) (by omega)).trans g1
  have dm:=(kE m (by omega)).trans gm
  have d2:hE.get (h.next+1+1)=some (.row 256 [pgL Y] false):=by rw[eE]; first|exact Z8 .. | (simp (maxSteps:=9^6) +decide (disch:=first|omega|(simp only[lens]<;>omega)|decide) only [go_sem,Zb,Za,simprocAttr]; done)|(simp (maxSteps:=9^6) +decide (disch:=first|omega|(simp only[lens]<;>omega)|decide) only [go_sem,Zb,Za,simprocAttr]<;>rfl)
  clear eE
  iterate 2 (first|apply Goes.seq|(apply Goes.drawn2 fits Hh Zc (by kernel_rfl); · simp (maxSteps:=9^6) +decide (disch:=first|omega|(simp only[lens]<;>omega)|decide) only [go_sem,Za,simprocAttr,drG,X9,tA1,tA0,List.append_assoc,List.cons_append,r5,r6,zl2,p40,p41,p42,p43,p20,p21,Xl,Yl,Vl,cp,clr,bl,u1,u2,u3,u4,a0,g0,g1,g2,gm,nG,d0,d1,d2,dm,nE,Zx,Y0,Uc,bound,Ui,reaches,Gx,Zh,Ms,Wl,Rv,Nat.add_zero,Nat.zero_add,Nat.mul_one]<;>rfl))
  refine Goes.abs fun hA eA=>?_
  have nA:hA.next=h.next+1+1+1+1:=by rw[eA,←nE]; simp only[H.Zj]
  have kA:∀ m,m<h.next→m≠n+6→hA.get m=h.get m:=fun m hm hne=>by rw[eA]; refine Eq.trans ?_ ((kE m (by omega)).trans ((rG m (by omega) hne).trans (k1 m hm))); simp (disch:=first|omega|(simp only[lens]<;>omega)) only [go_sem]
  have MA:=MG.keep (h2:=hA) (by omega) fun p hp=>by rw[eA]; refine Eq.trans ?_ (kE p (by omega)); simp (disch:=first|omega|(simp only[lens]<;>omega)) only [go_sem]
  have b0:hA.get h.next=some (.row 2 [[.int .i64 (z:Int),.bool false]] false):=by rw[eA]; simp (maxSteps:=9^6) +decide (disch:=first|omega|(simp only[lens]<;>omega)|decide) only [go_sem,Zb,Za,simprocAttr,d0]
  have b2:hA.get (h.next+1+1)=some (.row 256 [pgL X] false):=by rw[eA]; simp (maxSteps:=9^6) +decide (disch:=first|omega|(simp only[lens]<;>omega)|decide) only [go_sem,Zb,Za,simprocAttr]
  clear eA
  obtain⟨hB,eB,MB,nB,kB⟩:=MA.Z24 fb oz zl cl zs zt
  have c9:=Q8 Hh eB
  iterate 2 (first|apply Goes.ret|(apply Goes.ops2 fits Hh (Zt Zc c9); · simp (maxSteps:=9^6) +decide (disch:=first|omega|(simp only[lens]<;>omega)|decide) only [go_sem,Za,simprocAttr,Zy,X9,tA1,tA0,List.append_assoc,List.cons_append,r5,r6,zl2,p40,p41,p42,p43,p20,p21,Xl,Yl,Vl,cp,clr,bl,u1,u2,u3,u4,a0,g0,g1,g2,gm,nG,d0,d1,d2,dm,nE,b0,b2,Zx,Y0,Uc,bound,Ui,reaches,Gx,Zh,Ms,Wl,Rv,Nat.add_zero,Nat.zero_add,Nat.mul_one]<;>rfl))
  exact⟨_,_,(by simp (maxSteps:=9^6) +decide (disch:=first|omega|(simp only[lens]<;>omega)|decide) only [go_sem,Zb,Za,simprocAttr]<;>rfl),rfl,MB,⟨by omega,fun m hm ho=>(kB m ho).trans (kA m hm ho.1.1)⟩⟩
 exact⟨h',cc,r1,r2⟩
end
noncomputable def q37 (p:List Nat):Code:=piece p (Uq Tryz.f37)
theorem rs15:Tryz.f15.results.toList=[.tmp 4]:=rfl
theorem rs37:Tryz.f37.results.toList=[]:=rfl
attribute [go_sem] rs15 rs37
def pcE (off len d:Nat):Nat:=min 256 ((off+d) % 256+len - d)
def pcC (off len d:Nat):List C:=[.int .i64 (((off+d) / 256:Nat):Int),.int .i64 (((off+d) % 256:Nat):Int),.int .i64 ((pcE off len d:Nat):Int),.int .i64 (d:Int)]
def pcN (off len d:Nat):Nat:=d+(pcE off len d - (off+d) % 256)
theorem Zip {off len d:Nat} (h:d<len):d<pcN off len d∧pcN off len d≤len:=by
 have:=Nat.mod_lt (off+d) (show 0<256 by decide)
 unfold pcN pcE
 omega
section
variable (Hh:Hearts K Tryz.prog)
include Hh
theorem Zbg (off len:Nat) (h:Go.Ev.H):Ze K Tryz.prog 15 [.c (.int .i64 (off:Int)),.c (.int .i64 (len:Int))] h (.w (.c (.fn 37 [] [some (h.next+1,0),some (h.next,0)]))) ((h.new (.row 1 [[.int .i64 (off:Int)]] false)).new (.row 1 [[.int .i64 (len:Int)]] false)):=by
 refine Ze.goes fits Hh (by kernel_rfl) (by kernel_rfl) (by kernel_rfl) (show Tryz.f15.body=some _ from rfl) rfl ?_
 iterate 5 (first|apply Goes.seq|apply Goes.ret|(apply Goes.ops2 fits Hh Zc; · simp (maxSteps:=9^6) +decide (disch:=first|omega|(simp only[lens]<;>omega)|decide) only [go_sem,Zb,Za,simprocAttr,Zx]<;>rfl))
 simp (maxSteps:=9^6) +decide (disch:=first|omega|(simp only[lens]<;>omega)|decide) only [go_sem,Zb,Za,simprocAttr,Zx]<;>rfl
variable {L l p1 p2 off len:Nat} {lp:O} {I:Nat→Go.Ev.H→Prop}
structure PSt (I:Nat→Go.Ev.H→Prop) (L l p1 p2 off len:Nat) (lp:O) (d:Nat) (ts:Zu) (h:Go.Ev.H):Prop where
 i:I d h
 hl:h.get l=some lp
 s0:Zk ts 0=.w (.c (.yield l))
 s1:Zk ts 1=.w (.c (.ptr p1 0))
 s2:Zk ts 2=.w (.c (.ptr p2 0))
 s4:Zk ts 4=.w (.c (.int .i64 (d:Int)))
 g1:h.get p1=some (.row 1 [[.int .i64 (len:Int)]] false)
 g2:h.get p2=some (.row 1 [[.int .i64 (off:Int)]] false)
 b:l<h.next∧p1<h.next∧p2<h.next∧L≤h.next
theorem Zuj (o2:off≤16777216) (l2:len≤16777216) (Ik:∀ d h h2,I d h→h.next≤h2.next→(∀ m,m<h.next→h2.get m=h.get m)→I d h2)
  (round:∀ d h,d<len→I d h→h.get l=some lp→h.get p1=some (.row 1 [[.int .i64 (len:Int)]] false)→h.get p2=some (.row 1 [[.int .i64 (off:Int)]] false)→l<h.next→p1<h.next→p2<h.next→L≤h.next→∃ E h',Sound K Tryz.prog E∧Oq E l (some [.g (pcC off len d)]) h (some lp)=some (.val (.w (.c (.bool true))) h')∧I (pcN off len d) h'∧h'.get l=some lp∧h'.get p1=h.get p1∧h'.get p2=h.get p2∧h.next≤h'.next∧∀ p x,L≤p→p<h.next→h.get p=some (.row 4 [x] false)→h'.get p=some (.row 4 [x] false))
  {Q:X→List Nat→Zu→Go.Ev.H→Prop} (hQ:∀ ts2 h2,PSt I L l p1 p2 off len lp len ts2 h2→Q (.exit 0) [] ts2 h2):∀ (k d:Nat) (ts1:Zu) (h1:Go.Ev.H),len - d≤k→d≤len→PSt I L l p1 p2 off len lp d ts1 h1→Goes K Tryz.prog 38 none (q37 [1,2]) [] ts1 h1 Q:=by
 have fin:∀ (ts1:Zu) (h1:Go.Ev.H),PSt I L l p1 p2 off len lp len ts1 h1→Goes K Tryz.prog 38 none (q37 [1,2]) [] ts1 h1 Q:=fun ts1 h1 P=>by
  have P':=P
  obtain⟨i,hl,s0,s1,s2,s4,g1,g2,b⟩:=P
  have dd:decide ((len:Int)<(len:Int))=false:=decide_eq_false (by omega)
  iterate 6 (first|apply Goes.seq|apply Goes.exit|apply Goes.loop|((first|apply Goes.Zm|apply Goes.ops2 fits Hh Zc); · simp (maxSteps:=9^6) +decide (disch:=first|omega|(simp only[lens]<;>omega)|decide) only [go_sem,Zb,Za,simprocAttr,s0,s1,s2,s4,g1,g2,dd,Y7]<;>rfl))
  refine hQ _ _ ⟨i,hl,?_,?_,?_,?_,g1,g2,b⟩
  ·simp (maxSteps:=9^6) +decide (disch:=first|omega|(simp only[lens]<;>omega)|decide) only [go_sem,Zb,Za,simprocAttr,s0]
  ·simp (maxSteps:=9^6) +decide (disch:=first|omega|(simp only[lens]<;>omega)|decide) only [go_sem,Zb,Za,simprocAttr,s1]
  ·simp (maxSteps:=9^6) +decide (disch:=first|omega|(simp only[lens]<;>omega)|decide) only [go_sem,Zb,Za,simprocAttr,s2]
  ·simp (maxSteps:=9^6) +decide (disch:=first|omega|(simp only[lens]<;>omega)|decide) only [go_sem,Zb,Za,simprocAttr,s4]
 intro k
 induction k with
 | zero =>
  intro d ts1 h1 lk dl P
  obtain rfl:d=len:=by omega
  exact fin _ _ P
 | succ k ih =>
  intro d ts1 h1 lk dl P
  by_cases de:d=len
  ·subst de
   exact fin _ _ P
  obtain⟨i,hl,s0,s1,s2,s4,g1,g2,b⟩:=P
  have dt:d<len:=by omega
  have pn:=Zip (off:=off) dt
  have m8:=Nat.mod_lt (off+d) (show 0<256 by decide)
  have dd:decide ((d:Int)<(len:Int))=true:=decide_eq_true (by omega)
  have rm:Bo .i64 ((off:Int)+(d:Int)) 256=some (.int .i64 (((off+d) % 256:Nat):Int)):=by
   have:=U3 (k:=.i64) (a:=off+d) (b:=256) (by omega)
   rwa [Int.natCast_add] at this
  have dv:Dz .i64 ((off:Int)+(d:Int)) 256=some (.int .i64 (((off+d) / 256:Nat):Int)):=by
   have:=Dn (a:=off+d) (b:=256) (by omega) (by omega)
   rwa [Int.natCast_add] at this
  have mn:(if (((off+d) % 256:Nat):Int)+(len:Int) - (d:Int)<256 then (((off+d) % 256:Nat):Int)+(len:Int) - (d:Int) else 256)=((pcE off len d:Nat):Int):=by
   unfold pcE
   split<;>omega
  have nn:(d:Int)+(((pcE off len d:Nat):Int) - (((off+d) % 256:Nat):Int))=((pcN off len d:Nat):Int):=by
   unfold pcN pcE
   omega
  have pl:(pcC off len d).length=4:=rfl
  have pt:(pcC off len d).take 4=pcC off len d:=rfl
  have r1:read1 4 [pcC off len d] 1=some (.int .i64 (((off+d) % 256:Nat):Int)):=rfl
  have r2:read1 4 [pcC off len d] 2=some (.int .i64 ((pcE off len d:Nat):Int)):=rfl
  iterate 13 (first|apply Goes.seq|apply Goes.skip|apply Goes.block|apply Goes.loop|((first|apply Goes.Zm|apply Goes.ops2 fits Hh Zc); · simp (maxSteps:=9^6) +decide (disch:=first|omega|(simp only[lens]<;>omega)|decide) only [go_sem,Za,simprocAttr,s0,s1,s2,s4,g1,g2,dd,rm,dv,mn,nn,p40,p41,p42,p43,pl,pt,r1,r2,Y7,Zh]<;>rfl))
  refine Goes.abs fun hA eA=>?_
  have nA:hA.next=h1.next+1:=by rw[eA]; simp only[H.Zj,H.Zg]
  have kA:∀ m,m<h1.next→hA.get m=h1.get m:=fun m hm=>by rw[eA]; simp (disch:=first|omega|(simp only[lens]<;>omega)) only [go_sem]
  have bA:hA.get h1.next=some (.row 4 [pcC off len d] false):=by rw[eA]; simp (maxSteps:=9^6) +decide (disch:=first|omega|(simp only[lens]<;>omega)|decide) only [go_sem,Zb,Za,simprocAttr]<;>rfl
  clear eA
  have a1:=(kA p1 b.2.1).trans g1
  have a2:=(kA p2 b.2.2.1).trans g2
  have al:=(kA l b.1).trans hl
  obtain⟨E,hB,Sd,rnd,iB,lB,p1B,p2B,nB,kB⟩:=round d hA dt (Ik _ _ _ i (by omega) kA) al a1 a2 (by omega) (by omega) (by omega) (by omega)
  have bB:=kB _ _ b.2.2.2 (by omega) bA
  iterate 4 (first|apply Goes.skip|((first|apply Goes.Zm|apply Goes.ops2 fits Hh Sd); · simp (maxSteps:=9^6) +decide (disch:=first|omega|(simp only[lens]<;>omega)|decide) only [go_sem,Za,simprocAttr,s0,s1,s2,s4,g1,g2,dd,rm,dv,mn,nn,p40,p41,p42,p43,pl,pt,r1,r2,Y7,a1,a2,al,bA,bB,rnd,Zh]<;>rfl))
  show Goes K Tryz.prog 38 none (q37 [1,2]) _ _ _ _
  refine ih _ _ hB ?_ pn.2 ⟨iB,lB,?_,?_,?_,?_,p1B.trans a1,p2B.trans a2,by omega⟩
  ·omega
  ·simp (maxSteps:=9^6) +decide (disch:=first|omega|(simp only[lens]<;>omega)|decide) only [go_sem,Zb,Za,simprocAttr,s0]
  ·simp (maxSteps:=9^6) +decide (disch:=first|omega|(simp only[lens]<;>omega)|decide) only [go_sem,Zb,Za,simprocAttr,s1]
  ·simp (maxSteps:=9^6) +decide (disch:=first|omega|(simp only[lens]<;>omega)|decide) only [go_sem,Zb,Za,simprocAttr,s2]
  ·simp (maxSteps:=9^6) +decide (disch:=first|omega|(simp only[lens]<;>omega)|decide) only [go_sem,Zb,Za,simprocAttr,nn]<;>rfl
theorem Zqf (o2:off≤16777216) (l2:len≤16777216) (Ik:∀ d h h2,I d h→h.next≤h2.next→(∀ m,m<h.next→h2.get m=h.get m)→I d h2)
  (round:∀ d h,d<len→I d h→h.get l=some lp→h.get p1=some (.row 1 [[.int .i64 (len:Int)]] false)→h.get p2=some (.row 1 [[.int .i64 (off:Int)]] false)→l<h.next→p1<h.next→p2<h.next→L≤h.next→∃ E h',Sound K Tryz.prog E∧Oq E l (some [.g (pcC off len d)]) h (some lp)=some (.val (.w (.c (.bool true))) h')∧I (pcN off len d) h'∧h'.get l=some lp∧h'.get p1=h.get p1∧h'.get p2=h.get p2∧h.next≤h'.next∧∀ p x,L≤p→p<h.next→h.get p=some (.row 4 [x] false)→h'.get p=some (.row 4 [x] false))
  {h:Go.Ev.H} (i:I 0 h) (hl:h.get l=some lp) (g1:h.get p1=some (.row 1 [[.int .i64 (len:Int)]] false)) (g2:h.get p2=some (.row 1 [[.int .i64 (off:Int)]] false)) (b:l<h.next∧p1<h.next∧p2<h.next∧L≤h.next) :
  ∃ v h',Ze K Tryz.prog 37 [.c (.yield l),.c (.ptr p1 0),.c (.ptr p2 0)] h v h'∧I len h'∧h'.get l=some lp:=by
 obtain⟨v,h',cc,r1,r2⟩:∃ v h',Ze K Tryz.prog 37 [.c (.yield l),.c (.ptr p1 0),.c (.ptr p2 0)] h v h'∧I len h'∧h'.get l=some lp:=by
  refine Ze.Yi fits Hh (by kernel_rfl) (by kernel_rfl) (by kernel_rfl) (show Tryz.f37.body=some _ from rfl) rfl ?_
  iterate 3 (first|apply Goes.seq|apply Goes.block|(apply Goes.ops2 fits Hh Zc; · simp (maxSteps:=9^6) +decide (disch:=first|omega|(simp only[lens]<;>omega)|decide) only [go_sem,Zb,Za,simprocAttr,hl]<;>rfl))
  refine Zuj Hh (I:=I) (L:=L) (l:=l) (p1:=p1) (p2:=p2) (off:=off) (len:=len) (lp:=lp) o2 l2 Ik round ?_ len 0 _ h (by omega) (by omega) ⟨i,hl,?_,?_,?_,?_,g1,g2,b⟩
  ·intro ts2 h2 P
   show ∃ v h',leave K Tryz.f37 (some (Out.at X.normal [] ts2 h2))=some (Out.val v h')∧I len h'∧h'.get l=some lp
   exact⟨_,_,(by simp (maxSteps:=9^6) +decide (disch:=first|omega|(simp only[lens]<;>omega)|decide) only [go_sem,Zb,Za,simprocAttr]<;>rfl),P.i,P.hl⟩
  ·simp (maxSteps:=9^6) +decide (disch:=first|omega|(simp only[lens]<;>omega)|decide) only [go_sem,Zb,Za,simprocAttr]
  ·simp (maxSteps:=9^6) +decide (disch:=first|omega|(simp only[lens]<;>omega)|decide) only [go_sem,Zb,Za,simprocAttr]
  ·simp (maxSteps:=9^6) +decide (disch:=first|omega|(simp only[lens]<;>omega)|decide) only [go_sem,Zb,Za,simprocAttr]
  ·simp (maxSteps:=9^6) +decide (disch:=first|omega|(simp only[lens]<;>omega)|decide) only [go_sem,Zb,Za,simprocAttr]<;>rfl
 exact⟨v,h',cc,r1,r2⟩
end
theorem Zpf {ns xs:List Nat} {f j:Nat} (h:f+xs.length≤ns.length):atN (cpN ns f xs) j=if f≤j∧j<f+xs.length then atN xs (j - f) else atN ns j:=by
 unfold atN cpN
 rw[List.getD_eq_getElem?_getD,List.getD_eq_getElem?_getD,List.getD_eq_getElem?_getD]
 have tl:(ns.take f).length=f:=by rw[List.length_take]; omega
 by_cases a:j<f
 ·rw[if_neg (by omega),List.getElem?_append_left (by omega),List.getElem?_take_of_lt a]
 ·rw[List.getElem?_append_right (by omega),tl]
  by_cases b:j<f+xs.length
  ·rw[if_pos ⟨by omega,b⟩,List.getElem?_append_left (by omega)]
  ·rw[if_neg (by omega),List.getElem?_append_right (by omega),List.getElem?_drop]
   congr 3
   omega
theorem Znf {w:List Nat} {a k i:Nat} (h:i<k):atN ((w.drop a).take k) i=atN w (a+i):=by
 unfold atN
 rw[List.getD_eq_getElem?_getD,List.getD_eq_getElem?_getD,List.getElem?_take_of_lt h,List.getElem?_drop]
theorem Zmo (k j:Nat):atN (List.replicate k 0) j=0:=by
 unfold atN
 rw[List.getD_eq_getElem?_getD,List.getElem?_replicate]
 split<;>rfl
theorem Z1x {a b:List Nat} (l:a.length=b.length) (h:∀ j,j<a.length→atN a j=atN b j):pgL a=pgL b:=by
 apply List.ext_getElem?
 intro j
 by_cases q:j<a.length
 ·have:=h j q
  unfold atN at this
  simp only[pgL,List.getElem?_map]
  rw[List.getElem?_eq_getElem q,List.getElem?_eq_getElem (by omega)]
  rw[List.getD_eq_getElem?_getD,List.getD_eq_getElem?_getD,List.getElem?_eq_getElem q,List.getElem?_eq_getElem (by omega)] at this
  simp only[Option.getD_some] at this
  simp only[Option.map_some,this]
 ·rw[List.getElem?_eq_none (by rw[Ug]; omega),List.getElem?_eq_none (by rw[Ug]; omega)]
def byF (F:Nat→Nat) (i:Nat) (ns:List Nat):Prop:=∀ j,j<256→atN ns j=F (i * 256+j)
def wrF (F:Nat→Nat) (off:Nat) (w:List Nat) (ba d:Nat):Nat→Nat:=fun p=>if off≤p∧p<off+d then atN w (ba+(p - off)) else F p
theorem Tg (F:Nat→Nat) (off:Nat) (w:List Nat) (ba:Nat):wrF F off w ba 0=F:=by
 funext p
 unfold wrF
 rw[if_neg (by omega)]
def xnD (off d:Nat):Nat:=if d=0 then off / 256 else (off+d+255) / 256
theorem Zos {off len d:Nat} (dl:d<len) (al:d=0∨(off+d) % 256=0):xnD off d=(off+d) / 256∧xnD off (pcN off len d)=(off+d) / 256+1∧(pcN off len d=len∨(off+pcN off len d) % 256=0):=by
 have:=Nat.mod_lt (off+d) (show 0<256 by decide)
 unfold xnD pcN pcE
 refine⟨?_,?_,?_⟩
 ·split
  ·subst d; rfl
  ·omega
 ·split
  ·omega
  ·omega
 ·omega
theorem Zwq {F:Nat→Nat} {off len d ba l:Nat} {w:List Nat} (dl:d<len) (wl:ba+l≤w.length) (ll:len≤l) (z:∀ p,(off+d) / 256 * 256≤p→F p=0) (al:d=0∨(off+d) % 256=0) :
  byF (wrF F off w ba (pcN off len d)) ((off+d) / 256) (cpN zer0 ((off+d) % 256) ((w.drop (ba+d)).take (pcE off len d - (off+d) % 256))):=by
 have m8:=Nat.mod_lt (off+d) (show 0<256 by decide)
 intro j hj
 have kl:((w.drop (ba+d)).take (pcE off len d - (off+d) % 256)).length=pcE off len d - (off+d) % 256:=by
  rw[List.length_take,List.length_drop]; unfold pcE; omega
 rw[Zpf (by rw[kl,Ea]; unfold pcE; omega),kl]
 unfold wrF pcN
 by_cases a:(off+d) % 256≤j∧j<(off+d) % 256+(pcE off len d - (off+d) % 256)
 ·rw[if_pos a,Znf (by omega),if_pos (by omega)]
  congr 1
  omega
 ·rw[if_neg a,z _ (by omega)]
  have e:atN zer0 j=0:=Zmo 256 j
  rw[e,if_neg (by omega)]
theorem Zwl {F:Nat→Nat} {off len ba l:Nat} {w ns:List Nat} (dl:0<len) (wl:ba+l≤w.length) (ll:len≤l) (z:∀ p,off≤p→F p=0) (nl:ns.length=256) (hb:byF F (off / 256) ns) :
  byF (wrF F off w ba (pcN off len 0)) (off / 256) (cpN (cpN ns (off % 256) (List.replicate (256 - off % 256) 0)) (off % 256) ((w.drop (ba+0)).take (pcE off len 0 - off % 256))):=by
 have m8:=Nat.mod_lt off (show 0<256 by decide)
 intro j hj
 have kl:((w.drop (ba+0)).take (pcE off len 0 - off % 256)).length=pcE off len 0 - off % 256:=by
  rw[List.length_take,List.length_drop]; unfold pcE; omega
 have yl:(cpN ns (off % 256) (List.replicate (256 - off % 256) 0)).length=256:=by rw[Qp (by rw[List.length_replicate,nl]; omega),nl]
 rw[Zpf (by rw[kl,yl]; unfold pcE; omega),kl,Zpf (by rw[List.length_replicate,nl]; omega),List.length_replicate]
 have hj':=hb j hj
 unfold wrF pcN
 rw[Nat.add_zero]
 by_cases a:off % 256≤j∧j<off % 256+(pcE off len 0 - off % 256)
 ·rw[if_pos a,Znf (by omega),if_pos (by omega)]
  congr 1
  omega
 ·rw[if_neg a]
  by_cases b:off % 256≤j∧j<off % 256+(256 - off % 256)
  ·rw[if_pos b,Zmo,if_neg (by omega),z _ (by omega)]
  ·rw[if_neg b,if_neg (by omega),hj']
theorem Z10 {F:Nat→Nat} {off len d ba i:Nat} {w ns:List Nat} (dl:d<len) (ne:i≠(off+d) / 256) (h:byF (wrF F off w ba d) i ns):byF (wrF F off w ba (pcN off len d)) i ns:=by
 intro j hj
 rw[h j hj]
 have:=Nat.mod_lt (off+d) (show 0<256 by decide)
 unfold wrF pcN pcE
 by_cases a:off≤i * 256+j∧i * 256+j<off+d
 ·rw[if_pos a,if_pos (by omega)]
 ·rw[if_neg a,if_neg (by omega)]
structure FilS (blk:Nat→Nat) (V:Nat→List Nat) (P:Nat→Nat) (F:Nat→Nat) (lo m i0 i1:Nat):Prop where
 fi:FI blk V P lo m
 ii:i0≤i1∧i1≤36
 hang:∀ i,i0≤i→i<i1→Je V P i≠0∧byF F i (V (Je V P i))
 void:∀ i,i<72→¬ (i0≤i∧i<i1)→Je V P i=0
 out:∀ p,¬ (i0 * 256≤p∧p<i1 * 256)→F p=0
structure FilE (blk:Nat→Nat) (V:Nat→List Nat) (P:Nat→Nat) (F:Nat→Nat) (lo m i0 i1 i2:Nat):Prop where
 fi:FI blk V P lo m
 ii:i0≤i1∧i1≤i2∧i2≤36
 hang:∀ i,i0≤i→i<i2→Je V P i≠0
 cont:∀ i,i0≤i→i<i1→byF F i (V (Je V P i))
 void:∀ i,i<72→¬ (i0≤i∧i<i2)→Je V P i=0
variable {blk:Nat→Nat} {V V':Nat→List Nat} {P P':Nat→Nat} {F:Nat→Nat} {lo m m' i0 i1 i2 cap:Nat}
theorem FilS.e (S:FilS blk V P F lo m i0 i1):FilE blk V P F lo m i0 i1 i1:=⟨S.fi,⟨S.ii.1,Nat.le_refl _,S.ii.2⟩,fun i a b=>(S.hang i a b).1,fun i a b=>(S.hang i a b).2,S.void⟩
theorem FilS.any (S:FilS blk V P F lo m i0 i0) {i:Nat} (hi:i≤36):FilS blk V P F lo m i i:=⟨S.fi,⟨Nat.le_refl _,hi⟩,fun i a b=>absurd a (by omega),fun i h _=>S.void i h (by omega),fun p _=>S.out p (by omega)⟩
theorem FilS.zero (S:FilS blk V P F lo m i0 i0) (p:Nat):F p=0:=S.out p (by omega)
theorem FI.more (F:FI blk V P lo m) (h:m≤m'):FI blk V P lo m':=by
 obtain⟨i8,bl,dj,d8⟩:=F
 refine⟨?_,fun i hi=>?_,dj,d8⟩
 ·rcases i8 with w|⟨k,a,b,c⟩
  ·exact .inl w
  ·exact .inr ⟨k,a,by omega,c⟩
 ·rcases bl i hi with w|⟨k,a,b,c⟩
  ·exact .inl w
  ·exact .inr ⟨k,a,by omega,c⟩
theorem Ba (h8:P 8≠0→V' (P 8)=V (P 8)) {i:Nat} (hi:i<72):Je V' P i=Je V P i:=by
 by_cases d:i<8
 ·rw[Gs d,Gs d]
 ·rw[Od (by omega) hi,Od (by omega) hi]
  by_cases z:P 8=0
  ·rw[if_pos z,if_pos z]
  ·rw[if_neg z,if_neg z,h8 z]
theorem FI.congr (F:FI blk V P lo m) (h8:P 8≠0→V' (P 8)=V (P 8)):FI blk V' P lo m:=by
 obtain⟨i8,bl,dj,d8⟩:=F
 refine⟨i8,fun i hi=>?_,fun i j hi hj=>?_,fun i hi=>?_⟩
 ·rw[Ba h8 hi]; exact bl i hi
 ·rw[Ba h8 hi,Ba h8 hj]; exact dj i j hi hj
 ·rw[Ba h8 hi]; exact d8 i hi
theorem FilS.keep (S:FilS blk V P F lo m i0 i1) (k:∀ i,lo≤i→i<m→V' (blk i)=V (blk i)):FilS blk V' P F lo m i0 i1:=by
 obtain⟨fi,ii,hang,void,out⟩:=S
 have h8:P 8≠0→V' (P 8)=V (P 8):=fun z=>by
  rcases fi.i8 with w|⟨j,a,b,c⟩
  ·exact absurd w z
  ·rw[c]; exact k j a b
 refine⟨fi.congr h8,ii,fun i a b=>?_,fun i hi n=>?_,out⟩
 ·obtain⟨h1,h2⟩:=hang i a b
  rw[Ba h8 (by omega)]
  refine⟨h1,?_⟩
  rcases fi.bl i (by omega) with w|⟨j,q1,q2,q3⟩
  ·exact absurd w h1
  ·rw[q3] at h2 ⊢
   rw[k j q1 q2]; exact h2
 ·rw[Ba h8 hi]; exact void i hi n
theorem FilS.grow (S:FilS blk V P F lo m i0 i1) (h:m≤m'):FilS blk V P F lo m' i0 i1:=⟨S.fi.more h,S.ii,S.hang,S.void,S.out⟩
theorem FilE.ens {mt:Nat→Prop} {bi:Nat} {fr:Bool} (S:FilE blk V P F lo m i0 i1 i2) (inj:∀ m m',m<cap→m'<cap→blk m=blk m'→m=m') (mc:m+2≤cap) (nm:∀ k,k<cap→¬ mt (blk k)) {i:Nat} (hi:i0≤i) (i36:i<36) (h2:i=i2∨i+1=i2) (R:EnsR blk mt V P lo m i V' P' m' bi fr) :
  FilE blk V' P' F lo m' i0 i1 (max i2 (i+1))∧fr=decide (i2≤i)∧bi=Je V' P' i:=by
 obtain⟨fi,ii,hang,cont,void⟩:=S
 obtain⟨rfi,rat,rnz,roth,rkeep,rmm,rm2,rold,rnew,rp8⟩:=R
 have fe:fr=decide (i2≤i):=by
  cases fr with
  | false =>
   obtain⟨e1,e2,e3⟩:=rold rfl
   subst e1 e2 e3
   refine (decide_eq_false fun q=>?_).symm
   have:=void i (by omega) (by omega)
   exact rnz (rat.symm.trans this)
  | true =>
   refine (decide_eq_true ?_).symm
   rcases h2 with w|w
   ·omega
   ·exact absurd (rnew rfl).1 (hang i hi (by omega))
 refine⟨⟨rfi,⟨ii.1,by omega,by omega⟩,fun j a b=>?_,fun j a b=>?_,fun j a b=>?_⟩,fe,rat.symm⟩
 ·by_cases q:j=i
  ·subst q; rw[rat]; exact rnz
  ·rw[roth j (by omega) q]; exact hang j a (by omega)
 ·have hj:=hang j a (by omega)
  obtain⟨k,k0,k1,k2⟩:=(fi.bl j (by omega)).resolve_left hj
  have cj:=cont j a b
  have nm':=nm k (by omega)
  have ej:Je V' P' j=Je V P j:=by
   by_cases q:j=i
   ·subst q
    cases fr with
    | false =>
     obtain⟨e1,e2,e3⟩:=rold rfl
     rw[e1,e2]
    | true=>exact absurd (rnew rfl).1 hj
   ·exact roth j (by omega) q
  rw[ej]
  have vk:V' (Je V P j)=V (Je V P j):=by
   refine rkeep _ (by rw[k2]; exact nm') ?_ fun k' b1 b2 w=>?_
   ·rw[←ej]
    exact rfi.d8 j (by omega) (by rw[ej]; exact hj)
   ·have:=inj k k' (by omega) (by omega) (k2.symm.trans w)
    omega
  rw[vk]
  exact cj
 ·by_cases q:j=i
  ·subst q; exact absurd b (by omega)
  ·rw[roth j (by omega) q]; exact void j (by omega) (by omega)
theorem FilE.fill {off len d ba c:Nat} {w ns:List Nat} (S:FilE blk V P (wrF F off w ba d) lo m i0 c i2) (dl:d<len) (hx:i0≤(off+d) / 256∧(off+d) / 256<i2) (hc:(off+d) / 256=c∨(off+d) / 256+1=c) (hb:byF (wrF F off w ba (pcN off len d)) ((off+d) / 256) ns) :
  FilE blk (Gn V (Je V P ((off+d) / 256)) ns) P (wrF F off w ba (pcN off len d)) lo m i0 (max c ((off+d) / 256+1)) i2:=by
 obtain⟨fi,ii,hang,cont,void⟩:=S
 obtain⟨x,hx'⟩:∃ x,(off+d) / 256=x:=⟨_,rfl⟩
 have wr:=fun i ns (ne:i≠(off+d) / 256)=>Z10 (F:=F) (off:=off) (len:=len) (d:=d) (ba:=ba) (i:=i) (w:=w) (ns:=ns) dl ne
 rw[hx'] at hx hc hb wr ⊢
 have hz:=hang x hx.1 hx.2
 have z8:=fi.d8 x (by omega) hz
 have h8:P 8≠0→Gn V (Je V P x) ns (P 8)=V (P 8):=fun _=>Oo (Ne.symm z8)
 have eb:∀ i,i<72→Je (Gn V (Je V P x) ns) P i=Je V P i:=fun i hi=>Ba h8 hi
 refine⟨fi.congr h8,⟨by omega,by omega,ii.2.2⟩,fun i a b=>?_,fun i a b=>?_,fun i a b=>?_⟩
 ·rw[eb i (by omega)]; exact hang i a b
 ·rw[eb i (by omega)]
  by_cases q:i=x
  ·subst q; rw[Em]; exact hb
  ·have:Je V P i≠Je V P x:=fun e=>q (fi.dj i x (by omega) (by omega) (hang i a (by omega)) e)
   rw[Oo this]
   exact wr i _ q (cont i a (by omega))
 ·rw[eb i (by omega)]; exact void i a b
theorem FilE.done {off len ba:Nat} {w:List Nat} (S:FilE blk V P (wrF F off w ba len) lo m i0 i2 i2) (out:∀ p,¬ (i0 * 256≤p∧p<i2 * 256)→wrF F off w ba len p=0):FilS blk V P (wrF F off w ba len) lo m i0 i2 :=
 ⟨S.fi,⟨S.ii.1,S.ii.2.2⟩,fun i a b=>⟨S.hang i a b,S.cont i a b⟩,S.void,out⟩
def RdS (F:Nat→Nat) (off k d:Nat) (R:List Nat):Prop:=R.length=k∧∀ j,j<k→atN R j=if j<d then F (off+j) else 0
theorem Zzs (F:Nat→Nat) (off k:Nat):RdS F off k 0 (List.replicate k 0):=⟨List.length_replicate,fun j _=>by rw[Zmo,if_neg (by omega)]⟩
theorem Z09 {F:Nat→Nat} {off k d:Nat} {R ns:List Nat} (h:RdS F off k d R) (dk:d<k) (nl:ns.length=256) (hb:byF F ((off+d) / 256) ns):RdS F off k (pcN off k d) (cpN R d ((ns.drop ((off+d) % 256)).take (pcE off k d - (off+d) % 256))):=by
 have m8:=Nat.mod_lt (off+d) (show 0<256 by decide)
 have kl:((ns.drop ((off+d) % 256)).take (pcE off k d - (off+d) % 256)).length=pcE off k d - (off+d) % 256:=by
  rw[List.length_take,List.length_drop]; unfold pcE; omega
 have le:d+(pcE off k d - (off+d) % 256)≤R.length:=by rw[h.1]; unfold pcE; omega
 refine⟨by rw[Qp (by rw[kl]; exact le)]; exact h.1,fun j hj=>?_⟩
 rw[Zpf (by rw[kl]; exact le),kl,h.2 j hj]
 unfold pcN
 by_cases a:d≤j∧j<d+(pcE off k d - (off+d) % 256)
 ·rw[if_pos a,Znf (by omega),if_pos (by omega),hb _ (by unfold pcE at a; omega)]
  congr 1
  omega
 ·rw[if_neg a]
  by_cases b:j<d
  ·rw[if_pos b,if_pos (by omega)]
  ·rw[if_neg b,if_neg (by omega)]
theorem Zyc {F:Nat→Nat} {off k d:Nat} {R:List Nat} (h:RdS F off k d R) (dk:d<k) (z:∀ p,p / 256=(off+d) / 256→F p=0):RdS F off k (pcN off k d) R:=by
 have m8:=Nat.mod_lt (off+d) (show 0<256 by decide)
 refine⟨h.1,fun j hj=>?_⟩
 rw[h.2 j hj]
 unfold pcN
 by_cases a:j<d
 ·rw[if_pos a,if_pos (by omega)]
 ·rw[if_neg a]
  by_cases b:j<d+(pcE off k d - (off+d) % 256)
  ·rw[if_pos b,z _ (by unfold pcE at b; omega)]
  ·rw[if_neg b]
theorem Z1c {h:Go.Ev.H} {te:TI} {b m f k a l:Nat} {ns w:List Nat} (t1:te.size=1) (hb:h.get b=some (.row 256 [pgL ns] false)) (hm:h.get m=some (.row 1 (bsE w) false)) (nl:ns.length=256) (k0:0<k) (fk:f+k≤256) (ak:a+k≤w.length) (kl:k≤l) :
  Rz h (some te) (.slice m a l 1) (.slice b f k 1)=some (.w (.c (.int .i64 (k:Int))),h.put m (.row 1 (bsE (cpN w a ((ns.drop f).take k))) false)):=by
 have xl:((ns.drop f).take k).length=k:=by rw[List.length_take,List.length_drop]; omega
 have n0:Nat.beq k 0=false:=by cases k with
  | zero=>omega
  | succ k=>rfl
 have ch:∀ (xs:List Nat),chunks 1 xs.length (pgL xs)=bsE xs:=fun xs=>by
  induction xs with
  | nil=>rfl
  | cons x xs ih=>exact congrArg ([C.int .u8 ((x % 256:Nat):Int)] :: ·) ih
 have rr:Zb 256 [pgL ns] f (k * 1)=some (pgL ((ns.drop f).take k)):=by
  unfold Zb
  rw[Nat.mul_one,n0,cond_false,Nat.div_eq_of_lt (by omega),Nat.mod_eq_of_lt (by omega),List.getElem?_cons_zero]
  show (bif Nat.ble (f+k) (pgL ns).length then _ else none)=_
  rw[Mf (by rw[Ug]; omega),cond_true,pgL,pgL,List.map_take,List.map_drop]
 have rm:Bc 256 [pgL ns] f 1 k=some (bsE ((ns.drop f).take k)):=by
  have:=ch ((ns.drop f).take k)
  rw[xl] at this
  unfold Bc
  rw[n0,cond_false,show Nat.beq 256 1=false from rfl,cond_false,rr]
  show some (chunks 1 k _)=_
  rw[this]
 have wm:Eo 1 (bsE w) a 1 (bsE ((ns.drop f).take k))=some (bsE (cpN w a ((ns.drop f).take k))):=by
  have e:bsE (cpN w a ((ns.drop f).take k))=(bsE w).take a++bsE ((ns.drop f).take k)++(bsE w).drop (a+k):=by
   simp only[cpN,bsE,List.map_append,List.map_take,List.map_drop,List.append_assoc]
   rw[List.length_take,List.length_drop,Nat.min_eq_left (by omega)]
  rw[e]
  obtain⟨X,hX⟩:∃ X,bsE ((ns.drop f).take k)=X:=⟨_,rfl⟩
  have Xl:X.length=k:=by rw[←hX,V7,xl]
  rw[hX]
  match X,Xl with
  | [],x=>rw[List.length_nil] at x; omega
  | x :: X,q =>
   unfold Eo
   simp only[Nat.mod_one,Nat.div_one,Vp,cond_true,Bool.true_and,V7]
   rw[Mf (by rw[q]; omega),cond_true,q]
 simp only[Rz,Zf2,Nat.min_eq_left kl,n0,cond_false,t1,Vp,cond_true,Ziv,Jn,Zbb,hb,Sb,rm,Zij,hm,wm]
end Go.Proofs.YtgikjeaipmeclaaGreatDoor
