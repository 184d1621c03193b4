/- Slots of a directory's block: what their bytes tell. -/
import Derived.Test.YtecakmodlkbnaaaGreatDoorStrX
import Derived.Test.YtecakmodlkbnaaaGreatDoorEvC
import Derived.Test.YtecakmodlkbnaaaGreatDoorMpg
import Derived.Test.YtecakmodlkbnaaaGreatDoorTxn2
set_option linter.unusedSimpArgs false
set_option linter.unusedVariables false
set_option linter.unusedSectionVars false
set_option maxRecDepth 100000
set_option maxHeartbeats 4000000
namespace Go.Proofs.YtecakmodlkbnaaaGreatDoor
open Go.Ev
abbrev Sl:=Nat × List UInt8
def sl0:Sl:=(0,[])
def Vv (s:List UInt8):Bool:=!(decide ((s.length:Int)<1) || decide ((s.length:Int) > 27) || Uw s [46] || Uw s [46,46])&&(decide (Go.Lib.indexByte s 47<0)&&decide (Go.Lib.indexByte s 0<0))
theorem Zb3 {s:List UInt8} (h:Vv s=true):1≤s.length∧s.length≤27:=by
 unfold Vv at h
 simp only[Bool.and_eq_true,Bool.not_eq_true',Bool.or_eq_false_iff,decide_eq_false_iff_not] at h
 omega
theorem Dz:∀ {a b:List UInt8},Uw a b=true ↔ a=b
 | [],[]=>by simp [Uw]
 | [],_ :: _=>by simp [Uw]
 | _ :: _,[]=>by simp [Uw]
 | a :: x,b :: y=>by
  have:=Dz (a:=x) (b:=y)
  simp [Uw,this]
theorem Zaj {a b:List UInt8}:Uw a b=decide (a=b):=by
 by_cases h:a=b
 ·rw[decide_eq_true h]; exact Dz.2 h
 ·rw[decide_eq_false h]
  cases e:Uw a b with
  | false=>rfl
  | true=>exact absurd (Dz.1 e) h
def slB (x:Sl):Nat→Nat
 | 0=>x.1 % 256
 | 1=>x.1 / 256 % 256
 | 2=>x.1 / 256 / 256 % 256
 | 3=>x.1 / 256 / 256 / 256 % 256
 | 4=>x.2.length
 | j+5=>(x.2.getD j 0).toNat
def slC (x:Sl):List C:=[.int .u32 (x.1:Int),.str x.2]
def Og (l:List Sl):List C:=l.flatMap slC
def Zz5 (x:Sl):Prop:=x=sl0∨0<x.1∧x.1<4294967296∧Vv x.2=true
def apS (l:List Sl):Prop:=∀ (i j:Nat) (x y:Sl),l[i]? = some x→l[j]? = some y→i<j→x.1≠0→y.1≠0→x.2≠y.2
structure SlV (V:List Nat) (l:List Sl):Prop where
 vl:V.length=256
 ll:l.length=8
 at_:∀ i x,l[i]? = some x→∀ j,j<32→atN V (32 * i+j)=slB x j
 ok:∀ x∈l,Zz5 x
 ap:apS l
theorem Zth {x:Sl} {j:Nat} (h:5+x.2.length≤j):slB x j=0:=by
 obtain⟨k,rfl⟩:∃ k,j=k+5:=⟨j - 5,by omega⟩
 show (x.2.getD k 0).toNat=0
 rw[List.getD_eq_getElem?_getD,List.getElem?_eq_none (by omega)]
 rfl
theorem Zve (j:Nat):slB sl0 j=0:=by
 match j with
 | 0=>rfl
 | 1=>rfl
 | 2=>rfl
 | 3=>rfl
 | 4=>rfl
 | j+5=>exact Zth (by show 5+0≤j+5; omega)
theorem Z9b {x:Sl} {j:Nat} {b:UInt8} (h:x.2[j]? = some b):slB x (5+j)=b.toNat:=by
 rw[Nat.add_comm]
 show (x.2.getD j 0).toNat=_
 rw[List.getD_eq_getElem?_getD,h]
 rfl
section
variable {V:List Nat} {l:List Sl} {i:Nat} {x:Sl}
theorem SlV.lt (_S:SlV V l) (h:l[i]? = some x):i<8:=by
 rcases Nat.lt_or_ge i 8 with q|q
 ·exact q
 ·rw[List.getElem?_eq_none (by rw[_S.ll]; omega)] at h; cases h
theorem SlV.ino (S:SlV V l) (h:l[i]? = some x):Yk V (32 * i)=x.1:=by
 have b:x.1<4294967296:=by
  rcases S.ok x (List.mem_of_getElem? h) with rfl|q
  ·show 0<_; omega
  ·exact q.2.1
 have a0:atN V (32 * i)=x.1 % 256:=S.at_ i x h 0 (by omega)
 have a1:atN V (32 * i+1)=x.1 / 256 % 256:=S.at_ i x h 1 (by omega)
 have a2:atN V (32 * i+2)=x.1 / 256 / 256 % 256:=S.at_ i x h 2 (by omega)
 have a3:atN V (32 * i+3)=x.1 / 256 / 256 / 256 % 256:=S.at_ i x h 3 (by omega)
 unfold Yk
 rw[a0,a1,a2,a3]
 omega
theorem SlV.len (S:SlV V l) (h:l[i]? = some x):atN V (32 * i+4)=x.2.length:=S.at_ i x h 4 (by omega)
theorem SlV.void (S:SlV V l) (h:l[i]? = some sl0):Bb V (32 * i) 32=true:=by
 have:=S.lt h
 refine Zzz (by rw[S.vl]; omega) fun j hj=>?_
 rw[S.at_ i _ h j hj,Zve]
theorem SlV.rest (S:SlV V l) (h:l[i]? = some x) (l27:x.2.length≤27):Bb V (32 * i+(5+x.2.length)) (32 - (5+x.2.length))=true:=by
 have:=S.lt h
 refine Zzz (by rw[S.vl]; omega) fun j hj=>?_
 rw[show 32 * i+(5+x.2.length)+j=32 * i+(5+x.2.length+j) by omega,S.at_ i _ h _ (by omega)]
 exact Zth (by omega)
theorem SlV.nm (S:SlV V l) (h:l[i]? = some x) (l27:x.2.length≤27):∀ j (b:UInt8),x.2[j]? = some b→atN V (32 * i+5+j)=b.toNat:=fun j b hb=>by
 have jl:j<x.2.length:=by
  rcases Nat.lt_or_ge j x.2.length with q|q
  ·exact q
  ·rw[List.getElem?_eq_none q] at hb; cases hb
 rw[Nat.add_assoc,S.at_ i _ h _ (by omega)]
 exact Z9b hb
def Xc (V:List Nat) (i:Nat) (x:Sl):List Nat:=cpN ((Jq V (32 * i) x.1).set (32 * i+4) x.2.length) (32 * i+5) (x.2.map UInt8.toNat)
theorem SlV.add (S:SlV V l) (h:l[i]? = some sl0) (hx:Zz5 x) (ha:∀ y∈l,y.1≠0→y.2≠x.2) (l27:x.2.length≤27):SlV (Xc V i x) (l.set i x):=by
 have i8:=S.lt h
 have vl:=S.vl
 have ll:=S.ll
 have l1:((Jq V (32 * i) x.1).set (32 * i+4) x.2.length).length=256:=by rw[List.length_set,Yh,vl]
 have fl:32 * i+5+(x.2.map UInt8.toNat).length≤((Jq V (32 * i) x.1).set (32 * i+4) x.2.length).length:=by rw[l1,List.length_map]; omega
 refine⟨by unfold Xc; rw[Zvo fl,l1],by rw[List.length_set,ll],fun k y hk j hj=>?_,fun y hy=>?_,fun k k' y y' hk hk' kk y0 y0'=>?_⟩
 ·have k8:k<8:=by
   rcases Nat.lt_or_ge k 8 with q|q
   ·exact q
   ·rw[List.getElem?_eq_none (by rw[List.length_set,ll]; omega)] at hk; cases hk
  unfold Xc
  rw[Z3e fl,List.length_map,Zca _ _ _ _ (by rw[Yh,vl]; omega)]
  unfold Jq
  rw[Zca _ _ _ _ (by simp only[List.length_set,vl]; omega),Zca _ _ _ _ (by simp only[List.length_set,vl]; omega),Zca _ _ _ _ (by simp only[List.length_set,vl]; omega),Zca _ _ _ _ (by rw[vl]; omega)]
  by_cases e:k=i
  ·subst e
   rw[List.getElem?_set_self (by omega)] at hk
   cases hk
   match j,hj with
   | 0,_=>rw[if_neg (by omega),if_neg (by omega),if_neg (by omega),if_neg (by omega),if_neg (by omega),if_pos (by omega)]; rfl
   | 1,_=>rw[if_neg (by omega),if_neg (by omega),if_neg (by omega),if_neg (by omega),if_pos (by omega)]; rfl
   | 2,_=>rw[if_neg (by omega),if_neg (by omega),if_neg (by omega),if_pos (by omega)]; rfl
   | 3,_=>rw[if_neg (by omega),if_neg (by omega),if_pos (by omega)]; rfl
   | 4,_ =>
    rw[if_neg (by omega),if_pos (by omega)]
    show x.2.length % 256=x.2.length
    omega
   | j+5,hj =>
    by_cases q:j<x.2.length
    ·rw[if_pos ⟨by omega,by omega⟩,show 32 * k+(j+5) - (32 * k+5)=j by omega]
     unfold atN slB
     simp only[List.getD_eq_getElem?_getD,List.getElem?_map,List.getElem?_eq_getElem q,Option.map_some,Option.getD_some]
     exact Nat.mod_eq_of_lt (UInt8.toNat_lt _)
    ·rw[if_neg (by omega),if_neg (by omega),if_neg (by omega),if_neg (by omega),if_neg (by omega),if_neg (by omega),S.at_ k _ h _ hj,Zve,Zth (by omega)]
  ·rw[List.getElem?_set_ne (Ne.symm e)] at hk
   rw[if_neg (by omega),if_neg (by omega),if_neg (by omega),if_neg (by omega),if_neg (by omega),if_neg (by omega)]
   exact S.at_ k y hk j hj
 ·rcases List.mem_or_eq_of_mem_set hy with q|q
  ·exact S.ok y q
  ·rw[q]; exact hx
 ·by_cases e:k=i
  ·subst e
   rw[List.getElem?_set_self (by omega)] at hk
   cases hk
   rw[List.getElem?_set_ne (by omega)] at hk'
   exact Ne.symm (ha y' (List.mem_of_getElem? hk') y0')
  ·rw[List.getElem?_set_ne (Ne.symm e)] at hk
   by_cases e':k'=i
   ·subst e'
    rw[List.getElem?_set_self (by omega)] at hk'
    cases hk'
    exact ha y (List.mem_of_getElem? hk) y0
   ·rw[List.getElem?_set_ne (Ne.symm e')] at hk'
    exact S.ap k k' y y' hk hk' kk y0 y0'
def Zfp (V:List Nat) (i:Nat):List Nat:=cpN V (32 * i) (List.replicate 32 0)
theorem SlV.rem (S:SlV V l) (h:l[i]? = some x):SlV (Zfp V i) (l.set i sl0):=by
 have i8:=S.lt h
 have vl:=S.vl
 have ll:=S.ll
 have fl:32 * i+(List.replicate 32 0).length≤V.length:=by rw[vl,List.length_replicate]; omega
 refine⟨by unfold Zfp; rw[Zvo fl,vl],by rw[List.length_set,ll],fun k y hk j hj=>?_,fun y hy=>?_,fun k k' y y' hk hk' kk y0 y0'=>?_⟩
 ·unfold Zfp
  rw[Z3e fl,List.length_replicate]
  by_cases e:k=i
  ·subst e
   rw[List.getElem?_set_self (by omega)] at hk
   cases hk
   rw[if_pos ⟨by omega,by omega⟩,Zve]
   unfold atN
   rw[List.getD_eq_getElem?_getD,List.getElem?_replicate]
   split<;>rfl
  ·rw[List.getElem?_set_ne (Ne.symm e)] at hk
   rw[if_neg (by omega)]
   exact S.at_ k y hk j hj
 ·rcases List.mem_or_eq_of_mem_set hy with q|q
  ·exact S.ok y q
  ·rw[q]; exact .inl rfl
 ·by_cases e:k=i
  ·subst e
   rw[List.getElem?_set_self (by omega)] at hk
   cases hk
   exact absurd rfl y0
  ·rw[List.getElem?_set_ne (Ne.symm e)] at hk
   by_cases e':k'=i
   ·subst e'
    rw[List.getElem?_set_self (by omega)] at hk'
    cases hk'
    exact absurd rfl y0'
   ·rw[List.getElem?_set_ne (Ne.symm e')] at hk'
    exact S.ap k k' y y' hk hk' kk y0 y0'
end
def sl8:List Sl:=List.replicate 8 sl0
theorem Yb1:SlV (List.replicate 256 0) sl8:=by
 refine⟨rfl,rfl,fun i x hx j hj=>?_,fun x hx=>.inl (List.eq_of_mem_replicate hx),fun i j x y hx _ _ x0=>?_⟩
 ·obtain rfl:x=sl0:=List.eq_of_mem_replicate (List.mem_of_getElem? hx)
  rw[Zve]
  unfold atN
  rw[List.getD_eq_getElem?_getD,List.getElem?_replicate]
  split<;>rfl
 ·obtain rfl:x=sl0:=List.eq_of_mem_replicate (List.mem_of_getElem? hx)
  exact absurd rfl x0
theorem Mt:∀ l:List Sl,(Og l).length=2 * l.length
 | []=>rfl
 | x :: l=>by
  show (slC x++Og l).length=_
  rw[List.length_append,Mt l,List.length_cons]
  show 2+_=_
  omega
theorem Zu2:∀ {l:List Sl} {i:Nat} {x:Sl},l[i]? = some x→(Og l)[2 * i]? = some (.int .u32 (x.1:Int))∧(Og l)[2 * i+1]? = some (.str x.2)∧((Og l).drop (2 * i)).take 2=slC x
 | [],_,_,h=>by simp at h
 | y :: l,0,x,h=>by
  obtain rfl:y=x:=by simpa using h
  exact⟨rfl,rfl,rfl⟩
 | y :: l,i+1,x,h=>by
  obtain⟨h1,h2,h3⟩:=Zu2 (l:=l) (i:=i) (x:=x) (by simpa using h)
  exact⟨h1,h2,h3⟩
theorem Zop:∀ {l:List Sl} {i:Nat} (x:Sl),i<l.length→(Og l).take (2 * i)++slC x++(Og l).drop (2 * i+2)=Og (l.set i x)
 | [],_,_,h=>by simp at h
 | y :: l,0,x,_=>rfl
 | y :: l,i+1,x,h=>by
  have:=Zop (l:=l) (i:=i) x (by simpa using h)
  show slC y++((Og l).take (2 * i)++slC x++(Og l).drop (2 * i+2))=slC y++Og (l.set i x)
  rw[this]
theorem Z5j {l:List Sl} {i:Nat} {x:Sl} (ll:l.length=8) (h:l[i]? = some x):read1 16 [Og l] (i * 2)=some (.int .u32 (x.1:Int))∧read1 16 [Og l] (i * 2+1)=some (.str x.2)∧Zn 16 [Og l] (i * 2) 2=some (slC x):=by
 have i8:i<8:=by
  rcases Nat.lt_or_ge i 8 with q|q
  ·exact q
  ·rw[List.getElem?_eq_none (by omega)] at h; cases h
 obtain⟨h1,h2,h3⟩:=Zu2 h
 have sl:=Mt l
 rw[Nat.mul_comm i 2]
 unfold read1 Zn
 rw[Nat.div_eq_of_lt (by omega),Nat.mod_eq_of_lt (by omega),Nat.div_eq_of_lt (by omega),Nat.mod_eq_of_lt (by omega),List.getElem?_cons_zero]
 refine⟨h1,h2,?_⟩
 rw[Nn (by decide),cond_false]
 simp only
 rw[sl,ll,Nj (by omega),cond_true,h3]
theorem Yco {l:List Sl} {i:Nat} (x:Sl) (ll:l.length=8) (h:i<8):Z4 16 [Og l] (i * 2) (slC x)=some [Og (l.set i x)]:=by
 have sl:=Mt l
 have e:=Zop (l:=l) (i:=i) x (by omega)
 rw[Nat.mul_comm i 2]
 unfold slC at e ⊢
 unfold Z4
 simp only
 rw[Nat.div_eq_of_lt (by omega),Nat.mod_eq_of_lt (by omega),List.getElem?_cons_zero]
 simp only[List.length_cons,List.length_nil]
 rw[sl,ll,Nj (by omega),cond_true]
 show some [_]=_
 rw[←e]
theorem tA1 (x:Go.Operand):(some x).toArray.toList=[x]:=rfl
theorem tA0:(none:Option Go.Operand).toArray.toList=[]:=rfl
theorem rd20 (a b:C):read1 2 [[a,b]] 0=some a:=rfl
theorem rd21 (a b:C):read1 2 [[a,b]] 1=some b:=rfl
def Zd7 (s:List UInt8):Nat→List Sl→Int
 | _,[]=>-1
 | j,x :: r=>if x.1≠0∧x.2=s then (j:Int) else Zd7 s (j+1) r
def Zjf:Nat→List Sl→Int
 | _,[]=>-1
 | j,x :: r=>if x.1=0 then (j:Int) else Zjf (j+1) r
theorem Zb0 {s:List UInt8}:∀ {l:List Sl} {j:Nat},(∀ x∈l,x.1≠0→x.2≠s)→Zd7 s j l = -1
 | [],_,_=>rfl
 | x :: l,j,h=>by
  unfold Zd7
  rw[if_neg fun w=>h x (List.mem_cons_self ..) w.1 w.2]
  exact Zb0 fun y hy=>h y (List.mem_cons_of_mem _ hy)
theorem Zrj {s:List UInt8}:∀ {l:List Sl} {j i:Nat} {x:Sl},l[i]? = some x→x.1≠0→x.2=s→(∀ k y,k<i→l[k]? = some y→y.1≠0→y.2≠s)→Zd7 s j l=((j+i:Nat):Int)
 | [],_,_,_,h,_,_,_=>by simp at h
 | y :: l,j,0,x,h,h0,h1,_=>by
  obtain rfl:y=x:=by simpa using h
  unfold Zd7
  rw[if_pos ⟨h0,h1⟩]
  rfl
 | y :: l,j,i+1,x,h,h0,h1,h2=>by
  unfold Zd7
  rw[if_neg fun w=>h2 0 y (by omega) rfl w.1 w.2,Zrj (l:=l) (j:=j+1) (i:=i) (x:=x) (by simpa using h) h0 h1 fun k y hk hy=>h2 (k+1) y (by omega) (by simpa using hy)]
  omega
theorem Zoq:∀ {l:List Sl} {j:Nat},(∀ x∈l,x.1≠0)→Zjf j l = -1
 | [],_,_=>rfl
 | x :: l,j,h=>by
  unfold Zjf
  rw[if_neg (h x (List.mem_cons_self ..))]
  exact Zoq fun y hy=>h y (List.mem_cons_of_mem _ hy)
theorem Zrt:∀ {l:List Sl} {j i:Nat} {x:Sl},l[i]? = some x→x.1=0→(∀ k y,k<i→l[k]? = some y→y.1≠0)→Zjf j l=((j+i:Nat):Int)
 | [],_,_,_,h,_,_=>by simp at h
 | y :: l,j,0,x,h,h0,_=>by
  obtain rfl:y=x:=by simpa using h
  unfold Zjf
  rw[if_pos h0]
  rfl
 | y :: l,j,i+1,x,h,h0,h2=>by
  unfold Zjf
  rw[if_neg (h2 0 y (by omega) rfl),Zrt (l:=l) (j:=j+1) (i:=i) (x:=x) (by simpa using h) h0 fun k y hk hy=>h2 (k+1) y (by omega) (by simpa using hy)]
  omega
theorem ty9:K.types.get 9=some ti9:=by kernel_rfl
theorem sz9:ti9.size=1:=by rfl
theorem ag9:ti9.agg=false:=by rfl
theorem de9:ti9.desc=.string:=by rfl
theorem ze9:ti9.zero=(.c (.str [])):=by rfl
theorem by9:ti9.bytes=16:=by rfl
theorem ty94:K.types.get 94=some ti94:=by kernel_rfl
theorem sz94:ti94.size=2:=by rfl
theorem ag94:ti94.agg=true:=by rfl
theorem fo94_0:Zt K 94 0=some (0,ti36):=by kernel_rfl
theorem fo94_1:Zt K 94 1=some (1,ti9):=by kernel_rfl
theorem bu94 (ps:List (Nat × W)):Yo K 94 (some ps)=gW (Yd K 94 ps ti94.zero.cells):=by kernel_rfl
theorem ze94:ti94.zero=(.g ([.int .u32 0,.str []])):=by rfl
theorem by94:ti94.bytes=24:=by rfl
theorem ty165:K.types.get 165=some ti165:=by kernel_rfl
theorem sz165:ti165.size=1:=by rfl
theorem ag165:ti165.agg=false:=by rfl
theorem de165:ti165.desc=(.slice 94):=by rfl
theorem ze165:ti165.zero=(.c (.snil)):=by rfl
theorem by165:ti165.bytes=24:=by rfl
theorem el165:Jj K 165=some ti94:=by kernel_rfl
attribute [go_sem] ty9 sz9 ag9 de9 ze9 by9 ty94 sz94 ag94 fo94_0 fo94_1 bu94 ze94 by94 ty165 sz165 ag165 de165 ze165 by165 el165
noncomputable def q100 (p:List Nat):Code:=piece p (Uh Tryz.f100)
noncomputable def q147 (p:List Nat):Code:=piece p (Uh Tryz.f147)
theorem rs30:Tryz.f30.results.toList=[.tmp 2]:=rfl
theorem rs101:Tryz.f101.results.toList=[.tmp 4]:=rfl
theorem rs152:Tryz.f152.results.toList=[.cell 2 94,.tmp 3]:=rfl
theorem rs100:Tryz.f100.results.toList=[.tmp 4]:=rfl
theorem rs147:Tryz.f147.results.toList=[.tmp 2]:=rfl
attribute [go_sem] rs30 rs101 rs152 rs100 rs147
attribute [go_sem] xIB
theorem Zue (s:List UInt8):Y7 K 9 (.c (.str s))=true:=by kernel_rfl
theorem Zl2 (p o l:Nat):Y7 K 165 (.c (.slice p o l 2))=true:=by kernel_rfl
section
variable (Hh:Hearts K Tryz.prog)
include Hh
theorem Zn6 (s:List UInt8) (h:Go.Ev.H):Zg 30 [.c (.str s)] h (.w (.c (.bool (Vv s)))) h:=by
 have lf:=Zue
 have e47:Nat.toUInt8 47=47:=rfl
 have e0:Nat.toUInt8 0=0:=rfl
 unfold Vv
 cases e1:decide ((s.length:Int)<1) with
 | true =>
  refine fnG Hh Tryz.f30 ?_
  repeat (first|apply Zk|apply Zw|apply Z0|((first|apply Goes.Zi|apply Goes.ops2 fits Hh (Ru Za (fun _ _ _ _=>Zbm))); · simp (maxSteps:=9^6) +decide (disch:=first|omega|(simp only[lens]<;>omega)|decide) only [go_sem,Zn,Zm,simprocAttr,lf,e1,Zr,J3,Tm]<;>rfl))
  have Jf:=@e1; exact Zj
 | false =>
  cases e2:decide ((s.length:Int) > 27) with
  | true =>
   refine fnG Hh Tryz.f30 ?_
   repeat (first|apply Zk|apply Zw|apply Z0|((first|apply Goes.Zi|apply Goes.ops2 fits Hh (Ru Za (fun _ _ _ _=>Zbm))); · simp (maxSteps:=9^6) +decide (disch:=first|omega|(simp only[lens]<;>omega)|decide) only [go_sem,Zn,Zm,simprocAttr,lf,e1,e2,Zr,J3,Tm]<;>rfl))
   have Jf:=Yy @e1 @e2; exact Zj
  | false =>
   cases e3:Uw s [46] with
   | true =>
    refine fnG Hh Tryz.f30 ?_
    repeat (first|apply Zk|apply Zw|apply Z0|((first|apply Goes.Zi|apply Goes.ops2 fits Hh (Ru Za (fun _ _ _ _=>Zbm))); · simp (maxSteps:=9^6) +decide (disch:=first|omega|(simp only[lens]<;>omega)|decide) only [go_sem,Zn,Zm,simprocAttr,lf,e1,e2,e3,Zr,J3,Tm]<;>rfl))
    have Jf:=Jb @e1 @e2 @e3; exact Zj
   | false =>
    cases e4:Uw s [46,46] with
    | true =>
     refine fnG Hh Tryz.f30 ?_
     repeat (first|apply Zk|apply Zw|apply Z0|((first|apply Goes.Zi|apply Goes.ops2 fits Hh (Ru Za (fun _ _ _ _=>Zbm))); · simp (maxSteps:=9^6) +decide (disch:=first|omega|(simp only[lens]<;>omega)|decide) only [go_sem,Zn,Zm,simprocAttr,lf,e1,e2,e3,e4,Zr,J3,Tm]<;>rfl))
     have Jf:=Uq @e1 @e2 @e3 @e4; exact Zj
    | false =>
     cases e5:decide (Go.Lib.indexByte s 47<0) with
     | true =>
      refine fnG Hh Tryz.f30 ?_
      repeat (first|apply Zk|apply Zw|apply Z0|((first|apply Goes.Zi|apply Goes.ops2 fits Hh (Ru Za (fun _ _ _ _=>Zbm))); · simp (maxSteps:=9^6) +decide (disch:=first|omega|(simp only[lens]<;>omega)|decide) only [go_sem,Zn,Zm,simprocAttr,lf,e1,e2,e3,e4,e5,e47,e0,Zr,J3,Tm]<;>rfl))
      have Jf:=U1 @e1 @e2 @e3 @e4 @e5; exact Zj
     | false =>
      refine fnG Hh Tryz.f30 ?_
      repeat (first|apply Zk|apply Zw|apply Z0|((first|apply Goes.Zi|apply Goes.ops2 fits Hh (Ru Za (fun _ _ _ _=>Zbm))); · simp (maxSteps:=9^6) +decide (disch:=first|omega|(simp only[lens]<;>omega)|decide) only [go_sem,Zn,Zm,simprocAttr,lf,e1,e2,e3,e4,e5,e47,e0,Zr,J3,Tm]<;>rfl))
      have Jf:=U1 @e1 @e2 @e3 @e4 @e5; exact Zj
theorem Zyw {h:Go.Ev.H} {p i:Nat} {V:List Nat} (hp:h.get p=some (.row 256 [pgL V] false)) (vl:V.length=256) (i8:i<8):Zg 101 [.c (.ptr p 0),.c (.int .i64 (i:Int))] h (.w (.c (.slice p (32 * i) 32 1))) h:=by
 have w1:(32:Int) * (i:Int)=((32 * i:Nat):Int):=rfl
 have w2:(32:Int) * ((i:Int)+1)=((32 * i+32:Nat):Int):=by omega
 have s1:32 * i+32 - 32 * i=32:=by omega
 refine fnG Hh Tryz.f101 ?_
 repeat (first|apply Zk|apply Z0|((first|apply Goes.Zi|apply Goes.ops2 fits Hh Za); · simp (maxSteps:=9^6) +decide (disch:=first|omega|(simp only[lens]<;>omega)|decide) only [go_sem,Zn,Zm,simprocAttr,hp,w1,w2,s1,Zcl,Du,bound,Zh6,given,reaches,tA1,tA0,Nat.zero_add]<;>rfl))
 exact Zc
variable {V:List Nat} {l:List Sl} {i:Nat} {x:Sl}
theorem Z95 {h:Go.Ev.H} {p:Nat} (S:SlV V l) (hx:l[i]? = some x) (hp:h.get p=some (.row 256 [pgL V] false)) (hst:p<h.next):Zg 152 [.c (.slice p (32 * i) 32 1)] h (.tup [.g (slC x),.c (.bool true)]) h:=by
 have i8:=S.lt hx
 have vl:=S.vl
 have hm:=fun h=>Zn6 Hh x.2 h
 have f4:=S.ino hx
 have z0:=slC
 refine Gt rfl ?_
 rcases S.ok x (List.mem_of_getElem? hx) with rfl|⟨x0,x1,my⟩
 ·have v0:=S.void hx
  have n0:sl0.1=0:=rfl
  rw[n0] at f4
  refine Yg Hh Tryz.f152 ?_
  have Jf:=U1 @hp @f4 @vl @v0 @Nat.add_zero
  iterate 11 (first|apply Zk|apply Z0|refine Goes.Zi Uo ?_|refine Zq Hh (EY (EY Za (Lh Hh)) (Q9 Hh)) Uo ?_)
  exact⟨_,_,(by simp (maxSteps:=9^6) +decide (disch:=first|omega|(simp only[lens]<;>omega)|decide) only [go_sem,Zn,Zm,simprocAttr,slC]<;>rfl),rfl,fun m hm=>by exact Yc⟩
 ·have l27:=Zb3 my
  have v0:=S.rest hx l27.2
  have ln:=S.len hx
  have nm:=S.nm hx l27.2
  have lf:=Zu8
  rw[my] at hm
  have nz:((x.1:Int) == 0)=false:=Ee (by omega)
  obtain⟨xn,hxn⟩:∃ y,x.1=y:=⟨_,rfl⟩
  obtain⟨xs,hxs⟩:∃ y,x.2=y:=⟨_,rfl⟩
  have sp:=fun {h:Go.Ev.H} (hp:h.get p=some (.row 256 [pgL V] false))=>Z4s (o:=32 * i+5) hp vl (s:=xs) (by rw[←hxs]; omega) (by rw[←hxs]; omega) (by rw[←hxs]; exact nm)
  have sp:=sp (h:=h.new (.row 2 [[.int .u32 0,.str []]] false)) (by rw[Z8 (by omega)]; exact hp)
  unfold slC
  rw[hxn] at f4 nz ⊢
  rw[hxs] at ln v0 hm l27 ⊢
  obtain⟨n,hn⟩:∃ n,xs.length=n:=⟨_,rfl⟩
  simp only[hn] at ln v0 l27 sp
  have w5:(5:Int)+(n:Int)=((5+n:Nat):Int):=rfl
  have g5:decide (((5+n:Nat):Int) > 32)=false:=decide_eq_false (by omega)
  have s5:5+n - 5=n:=by omega
  refine Yg Hh Tryz.f152 ?_
  iterate 20 (first|apply Zk|apply Zw|((first|apply Goes.Zi|apply Goes.ops2 fits Hh (EY (EY Za (Lh Hh)) (Q9 Hh))); · simp (maxSteps:=9^6) +decide (disch:=first|omega|(simp only[lens]<;>omega)|decide) only [go_sem,Zm,simprocAttr,hp,f4,vl,v0,ln,nz,w5,g5,s5,sp,lf,tA1,tA0,Nat.add_zero,Zr,J3,Oq,Du,bound,La,reaches,Jm,Ms,Q4,Qr]<;>rfl))
  iterate 6 (first|apply Zk|apply Zw|apply Z0|((first|apply Goes.Zi|apply Goes.ops2 fits Hh (Yp Za hm)); · simp (maxSteps:=9^6) +decide (disch:=first|omega|(simp only[lens]<;>omega)|decide) only [go_sem,Zm,simprocAttr,hp,f4,vl,v0,ln,nz,w5,g5,s5,sp,lf,tA1,tA0,Nat.add_zero,Zr,J3,Oq,Du,bound,La,reaches,Jm,Ms,Q4,Qr]<;>rfl))
  exact⟨_,_,Yn,rfl,fun m hm=>by exact Yc⟩
end
theorem ty181:K.types.get 181=some ti181:=by kernel_rfl
theorem sz181:ti181.size=16:=by rfl
theorem ag181:ti181.agg=true:=by rfl
theorem de181:ti181.desc=(.array 8 94):=by rfl
theorem ze181:ti181.zero=(.g ([.int .u32 0,.str [],.int .u32 0,.str [],.int .u32 0,.str [],.int .u32 0,.str [],.int .u32 0,.str [],.int .u32 0,.str [],.int .u32 0,.str [],.int .u32 0,.str []])):=by rfl
theorem by181:ti181.bytes=192:=by rfl
attribute [go_sem] ty181 sz181 ag181 de181 ze181 by181
noncomputable def q99 (p:List Nat):Code:=piece p (Uh Tryz.f99)
theorem rs99:Tryz.f99.results.toList=[.cell 2 181,.tmp 3]:=rfl
theorem rs136:Tryz.f136.results.toList=[.tmp 2,.tmp 3]:=rfl
attribute [go_sem] rs99 rs136
section
variable (Hh:Hearts K Tryz.prog)
include Hh
variable {V:List Nat} {l:List Sl} {i:Nat} {x:Sl}
theorem Z5p (ll:l.length=8) {p n:Nat} (n8:n≤8) (s:List UInt8):∀ (k j:Nat) (ts:Zx) (h:Go.Ev.H),j+k=n→(∀ i y,i<j→l[i]? = some y→y.1≠0→y.2≠s)→h.get p=some (.row 16 [Og l] false)→p<h.next→Zh ts 1=.w (.c (.str s))→Zh ts 5=.w (.c (.int .i64 (-1)))→Zh ts 8=.w (.c (.slice p 0 n 2))→Zh ts 9=.w (.c (.int .i64 (n:Int)))→Zh ts 10=.w (.c (.int .i64 (j:Int))) →
  Ye 28 none (q100 [1,2,1,1,0,1,2]) [] ts h fun x ds' ts' h'=>x=.exit 0∧Zh ts' 5=.w (.c (.int .i64 (Zd7 s 0 (l.take n))))∧ds'=[]∧∀ m,m<h.next→h'.get m=h.get m:=by
 have tk:∀ {i:Nat} {y:Sl},i<n→l[i]? = some y→(l.take n)[i]? = some y:=fun h1 h2=>by rw[List.getElem?_take_of_lt h1]; exact h2
 intro k
 induction k with
 | zero =>
  intro j ts h hj b hp pl t1 t5 t8 t9 t10
  obtain rfl:j=n:=by omega
  have nn:Zd7 s 0 (l.take j) = -1:=Zb0 fun y hy y0=>by
   obtain⟨i,hi⟩:=List.mem_iff_getElem?.1 hy
   have il:i<j:=by
    rcases Nat.lt_or_ge i j with q|q
    ·exact q
    ·rw[List.getElem?_eq_none (by rw[List.length_take]; omega)] at hi; cases hi
   rw[List.getElem?_take_of_lt il] at hi
   exact b i y il hi y0
  rw[nn]
  have dd:decide ((j:Int)<(j:Int))=false:=decide_eq_false (by omega)
  have Jf:=Jb @t9 @t10 @dd
  iterate 6 (first|apply Zk|apply Ux|apply Je|refine Goes.Zi Zj ?_|refine Zq Hh Za Zj ?_)
  refine⟨rfl,?_,rfl,fun m hm=>rfl⟩
  simp (maxSteps:=9^6) +decide (disch:=first|omega|(simp only[lens]<;>omega)|decide) only [go_sem,Zn,Zm,simprocAttr,t5]
 | succ k ih =>
  intro j ts h hj b hp pl t1 t5 t8 t9 t10
  have jn:j<n:=by omega
  obtain⟨y,hy⟩:∃ y,l[j]? = some y:=⟨_,List.getElem?_eq_getElem (by omega)⟩
  obtain⟨r0,r1,r2⟩:=Z5j ll hy
  obtain⟨R,hR⟩:∃ R,Og l=R:=⟨_,rfl⟩
  have hp':=hp
  rw[hR] at hp' r0 r1 r2
  obtain⟨u,w⟩:=y
  unfold slC at r2
  simp only at r0 r1 r2
  have dd:decide ((j:Int)<(n:Int))=true:=decide_eq_true (by omega)
  have wz:Z4 2 [[C.int .u32 0,.str []]] 0 [.int .u32 (u:Int),.str w]=some [[.int .u32 (u:Int),.str w]]:=rfl
  by_cases u0:u=0
  ·have ui:((u:Int) != 0)=false:=by subst u0; rfl
   iterate 16 (first|apply Zk|apply Zw|apply Yt|apply Je|((first|apply Goes.Zi|apply Goes.ops2 fits Hh Za); · simp (maxSteps:=9^6) +decide (disch:=first|omega|(simp only[lens]<;>omega)|decide) only [go_sem,Zm,simprocAttr,t1,t8,t9,t10,hp',r2,dd,ui,wz,rd20,rd21,Nat.zero_add,Tm]<;>rfl))
   show Ye 28 none (q100 [1,2,1,1,0,1,2]) _ _ _ _
   refine (ih (j+1) _ _ (by omega) (fun i y hi hy' y0=>?_) ?_ ?_ ?_ ?_ ?_ ?_ ?_).mono ?_
   ·rcases Nat.lt_or_ge i j with q|q
    ·exact b i y q hy' y0
    ·obtain rfl:i=j:=by omega
     rw[hy] at hy'
     cases hy'
     exact absurd u0 y0
   ·refine Eq.trans ?_ hp; exact Yc
   ·simp only[H.Zd,H.Zb]; omega
   ·have Jf:=@t1; exact Zj
   ·have Jf:=@t5; exact Zj
   ·have Jf:=@t8; exact Zj
   ·have Jf:=@t9; exact Zj
   ·exact Zc
   rintro x ds1 ts1 h1 ⟨rfl,r,rfl,k1⟩
   refine⟨rfl,r,rfl,fun m hm=>(k1 m (by simp only[H.Zd,H.Zb]; omega)).trans ?_⟩
   exact Yc
  ·have ui:((u:Int) != 0)=true:=Mr (by omega)
   by_cases ws:w=s
   ·have es:Uw w s=true:=Dz.2 ws
    have na:=Zrj (s:=s) (l:=l.take n) (j:=0) (tk jn hy) u0 ws fun k y hk hy' y0=>by
     rw[List.getElem?_take_of_lt (by omega)] at hy'
     exact b k y hk hy' y0
    rw[Nat.zero_add] at na
    rw[na]
    iterate 17 (first|apply Zk|apply Zw|apply Wn|apply Ux|apply Je|((first|apply Goes.Zi|apply Goes.ops2 fits Hh Za); · simp (maxSteps:=9^6) +decide (disch:=first|omega|(simp only[lens]<;>omega)|decide) only [go_sem,Zm,simprocAttr,t1,t8,t9,t10,hp',r2,dd,ui,es,wz,rd20,rd21,Nat.zero_add,Tm]<;>rfl))
    refine⟨rfl,?_,rfl,fun m hm=>?_⟩
    ·have Jf:=@t10; exact Zj
    ·exact Yc
   ·have es:Uw w s=false:=by rw[Zaj]; exact decide_eq_false ws
    iterate 16 (first|apply Zk|apply Zw|apply Yt|apply Je|((first|apply Goes.Zi|apply Goes.ops2 fits Hh Za); · simp (maxSteps:=9^6) +decide (disch:=first|omega|(simp only[lens]<;>omega)|decide) only [go_sem,Zm,simprocAttr,t1,t8,t9,t10,hp',r2,dd,ui,es,wz,rd20,rd21,Nat.zero_add,Tm]<;>rfl))
    show Ye 28 none (q100 [1,2,1,1,0,1,2]) _ _ _ _
    refine (ih (j+1) _ _ (by omega) (fun i y hi hy' y0=>?_) ?_ ?_ ?_ ?_ ?_ ?_ ?_).mono ?_
    ·rcases Nat.lt_or_ge i j with q|q
     ·exact b i y q hy' y0
     ·obtain rfl:i=j:=by omega
      rw[hy] at hy'
      cases hy'
      exact ws
    ·refine Eq.trans ?_ hp; exact Yc
    ·simp only[H.Zd,H.Zb]; omega
    ·have Jf:=@t1; exact Zj
    ·have Jf:=@t5; exact Zj
    ·have Jf:=@t8; exact Zj
    ·have Jf:=@t9; exact Zj
    ·exact Zc
    rintro x ds1 ts1 h1 ⟨rfl,r,rfl,k1⟩
    refine⟨rfl,r,rfl,fun m hm=>(k1 m (by simp only[H.Zd,H.Zb]; omega)).trans ?_⟩
    exact Yc
theorem Zy4 (ll:l.length=8) {h:Go.Ev.H} {p n:Nat} (n8:n≤8) (s:List UInt8) (hp:h.get p=some (.row 16 [Og l] false)) (pl:p<h.next):Zg 100 [.c (.slice p 0 n 2),.c (.str s)] h (.w (.c (.int .i64 (Zd7 s 0 (l.take n))))) h:=by
 have lf:=Zl2
 refine Gt rfl ?_
 refine Yg Hh Tryz.f100 ?_
 have Jf:=@lf
 iterate 11 (first|apply Zk|apply Yt|apply Goes.scope|apply Goes.label|refine Zq Hh Za Ur ?_)
 refine (Z5p Hh ll n8 s n 0 _ h (by omega) (fun i y hi=>absurd hi (by omega)) hp pl ?_ ?_ ?_ ?_ ?_).mono ?_
 ·exact Zc
 ·exact Zc
 ·exact Zc
 ·exact Zc
 ·exact Zc
 rintro x1 ds1 ts1 h1 ⟨rfl,t5,rfl,k1⟩
 have Jf:=@t5
 iterate 3 (first|apply Zk|apply Z0|refine Zq Hh Za Zj ?_)
 exact⟨_,_,Zj,rfl,k1⟩
theorem Z5d (ll:l.length=8) {p:Nat}:∀ (k j:Nat) (ts:Zx) (h:Go.Ev.H),j+k=8→(∀ i y,i<j→l[i]? = some y→y.1≠0)→h.get p=some (.row 16 [Og l] false)→p<h.next→Zh ts 5=.w (.c (.slice p 0 8 2))→Zh ts 6=.w (.c (.int .i64 8))→Zh ts 7=.w (.c (.int .i64 (j:Int))) →
  Ye 17 none (q147 [1,0,1,2]) [] ts h fun x ds' ts' h'=>((x=.ret∧Zh ts' 2=.w (.c (.int .i64 (Zjf 0 l))))∨(x=.exit 0∧Zjf 0 l = -1))∧ds'=[]∧∀ m,m<h.next→h'.get m=h.get m:=by
 intro k
 induction k with
 | zero =>
  intro j ts h hj b hp pl t5 t6 t7
  obtain rfl:j=8:=by omega
  have nn:Zjf 0 l = -1:=Zoq fun y hy=>by
   obtain⟨i,hi⟩:=List.mem_iff_getElem?.1 hy
   have il:i<8:=by
    rcases Nat.lt_or_ge i 8 with q|q
    ·exact q
    ·rw[List.getElem?_eq_none (by omega)] at hi; cases hi
   exact b i y il hi
  have Jf:=Yy @t6 @t7
  iterate 6 (first|apply Zk|apply Ux|apply Je|refine Goes.Zi Zj ?_|refine Zq Hh Za Zj ?_)
  exact⟨.inr ⟨rfl,nn⟩,rfl,fun m hm=>rfl⟩
 | succ k ih =>
  intro j ts h hj b hp pl t5 t6 t7
  have jn:j<8:=by omega
  obtain⟨y,hy⟩:∃ y,l[j]? = some y:=⟨_,List.getElem?_eq_getElem (by omega)⟩
  obtain⟨r0,r1,r2⟩:=Z5j ll hy
  obtain⟨R,hR⟩:∃ R,Og l=R:=⟨_,rfl⟩
  have hp':=hp
  rw[hR] at hp' r0 r1 r2
  obtain⟨u,w⟩:=y
  unfold slC at r2
  simp only at r0 r1 r2
  have dd:decide ((j:Int)<8)=true:=decide_eq_true (by omega)
  have wz:Z4 2 [[C.int .u32 0,.str []]] 0 [.int .u32 (u:Int),.str w]=some [[.int .u32 (u:Int),.str w]]:=rfl
  by_cases u0:u=0
  ·have ui:((u:Int) == 0)=true:=by subst u0; rfl
   have fa:=Zrt (l:=l) (j:=0) hy u0 fun k y hk hy'=>b k y hk hy'
   rw[Nat.zero_add] at fa
   rw[fa]
   have Jf:=Jb @t5 @t6 (Yu @t7 @hp' @r2 @dd @ui @wz @rd20 @rd21 @Nat.zero_add)
   iterate 16 (first|apply Zk|apply Zw|apply Yt|apply Z0|apply Je|refine Goes.Zi Z5 ?_|refine Zq Hh Za Z5 ?_)
   refine⟨.inl ⟨rfl,?_⟩,rfl,fun m hm=>?_⟩
   ·exact Zj
   ·exact Yc
  ·have ui:((u:Int) == 0)=false:=Ee (by omega)
   have Jf:=Jb @t5 @t6 (Yu @t7 @hp' @r2 @dd @ui @wz @rd20 @rd21 @Nat.zero_add)
   iterate 15 (first|apply Zk|apply Zw|apply Yt|apply Je|refine Goes.Zi Z5 ?_|refine Zq Hh Za Z5 ?_)
   show Ye 17 none (q147 [1,0,1,2]) _ _ _ _
   refine (ih (j+1) _ _ (by omega) (fun i y hi hy'=>?_) ?_ ?_ ?_ ?_ ?_).mono ?_
   ·rcases Nat.lt_or_ge i j with q|q
    ·exact b i y q hy'
    ·obtain rfl:i=j:=by omega
     rw[hy] at hy'
     cases hy'
     exact u0
   ·refine Eq.trans ?_ hp; exact Yc
   ·simp only[H.Zd,H.Zb]; omega
   ·have Jf:=@t5; exact Zj
   ·have Jf:=@t6; exact Zj
   ·exact Zc
   rintro x ds1 ts1 h1 ⟨r,rfl,k1⟩
   refine⟨r,rfl,fun m hm=>(k1 m (by simp only[H.Zd,H.Zb]; omega)).trans ?_⟩
   exact Yc
theorem Yby (ll:l.length=8) {h:Go.Ev.H} {p:Nat} (hp:h.get p=some (.row 16 [Og l] false)) (pl:p<h.next):Zg 147 [.c (.slice p 0 8 2)] h (.w (.c (.int .i64 (Zjf 0 l)))) h:=by
 have lf:=Zl2
 refine Gt rfl ?_
 refine Yg Hh Tryz.f147 ?_
 have Jf:=@lf
 iterate 6 (first|apply Zk|apply Yt|refine Zq Hh Za Ur ?_)
 refine (Z5d Hh ll 8 0 _ h (by omega) (fun i y hi=>absurd hi (by omega)) hp pl ?_ ?_ ?_).mono ?_
 ·exact Zc
 ·exact Zc
 ·exact Zc
 rintro x1 ds1 ts1 h1 ⟨⟨rfl,t2⟩|⟨rfl,e⟩,rfl,k1⟩
 ·exact⟨_,_,(by have Jf:=@t2; exact Zj),rfl,k1⟩
 ·rw[e]
  iterate 3 (first|apply Zk|apply Z0|refine Zq Hh Za Zc ?_)
  exact⟨_,_,Zc,rfl,k1⟩
end
theorem Zrc {ts:Zx} {h:Go.Ev.H} (t:Go.TypeId) (x:Go.Operand) (lo hi:Option Go.Operand):U0 K ts h (.slice t x lo hi none)=O7 h (Oq K h (K.types.get t) (Z6 K ts x) (Du K ts lo) (Du K ts hi)):=rfl
def upS (l:List Sl) (j:Nat):List Sl:=l.take j++List.replicate (8 - j) sl0
theorem Zu5 {l:List Sl} {j:Nat} (ll:l.length=8) (j8:j≤8):(upS l j).length=8:=by
 unfold upS; rw[List.length_append,List.length_take,List.length_replicate]; omega
theorem Z38 {l:List Sl} {j:Nat} {x:Sl} (ll:l.length=8) (h:l[j]? = some x):(upS l j).set j x=upS l (j+1):=by
 have j8:j<8:=by
  rcases Nat.lt_or_ge j 8 with q|q
  ·exact q
  ·rw[List.getElem?_eq_none (by omega)] at h; cases h
 have l1:(l.take j).length=j:=by rw[List.length_take]; omega
 unfold upS
 rw[List.set_append_right _ _ (by omega),l1,Nat.sub_self,show 8 - j=(8 - (j+1))+1 by omega,List.replicate_succ,List.set_cons_zero,List.take_add_one,h,Option.toList_some,List.append_assoc]
 rfl
theorem Z8d {l:List Sl} {j:Nat} {x:Sl} (h:l[j]? = some x):(upS l (j+1))[j]? = some x:=by
 have jl:j<l.length:=by
  rcases Nat.lt_or_ge j l.length with q|q
  ·exact q
  ·rw[List.getElem?_eq_none q] at h; cases h
 unfold upS
 rw[List.getElem?_append_left (by rw[List.length_take]; omega),List.getElem?_take_of_lt (by omega)]
 exact h
theorem Z37 {l:List Sl} {j:Nat} (jl:j≤l.length):(upS l (j+1)).take j=l.take j:=by
 unfold upS
 rw[List.take_append_of_le_length (by rw[List.length_take]; omega),List.take_take,Nat.min_eq_left (by omega)]
theorem Z4k {l:List Sl} (ll:l.length=8):upS l 8=l:=by
 unfold upS
 rw[List.take_of_length_le (by omega),Nat.sub_self]
 exact List.append_nil l
section
variable (Hh:Hearts K Tryz.prog)
include Hh
variable {V:List Nat} {l:List Sl} {i:Nat} {x:Sl}
theorem Z2p (S:SlV V l) {p P:Nat}:∀ (k j:Nat) (ts:Zx) (h:Go.Ev.H),j+k=8→h.get p=some (.row 256 [pgL V] false)→p<h.next→h.get P=some (.row 16 [Og (upS l j)] false)→P<h.next→p≠P→Zh ts 0=.w (.c (.ptr p 0))→Zh ts 2=.w (.c (.ptr P 0))→Zh ts 5=.w (.c (.int .i64 (j:Int))) →
  Ye 38 none (q99 [1,0,1,2]) [] ts h fun x ds' ts' h'=>x=.exit 0∧Zh ts' 2=.w (.c (.ptr P 0))∧ds'=[]∧h'.get P=some (.row 16 [Og l] false)∧P<h'.next∧∀ m,m<h.next→m≠P→h'.get m=h.get m:=by
 have ll:=S.ll
 have vl:=S.vl
 intro k
 induction k with
 | zero =>
  intro j ts h hj hp pl hP Pl ne t0 t2 t5
  obtain rfl:j=8:=by omega
  rw[Z4k ll] at hP
  have Jf:=@t5
  iterate 6 (first|apply Zk|apply Ux|apply Je|refine Goes.Zi Zj ?_|refine Zq Hh Za Zj ?_)
  refine⟨rfl,?_,rfl,hP,Pl,fun m _ _=>rfl⟩
  simp (maxSteps:=9^6) +decide (disch:=first|omega|(simp only[lens]<;>omega)|decide) only [go_sem,Zn,Zm,simprocAttr,t2]
 | succ k ih =>
  intro j ts h hj hp pl hP Pl ne t0 t2 t5
  have j8:j<8:=by omega
  obtain⟨y,hy⟩:∃ y,l[j]? = some y:=⟨_,List.getElem?_eq_getElem (by omega)⟩
  have c1:=Zyw Hh hp vl j8
  have c2:=Z95 Hh S hy hp pl
  have w:=Yco y (Zu5 ll (show j≤8 by omega)) j8
  rw[Z38 ll hy] at w
  have ul:=Zu5 ll (show j+1≤8 by omega)
  obtain⟨r0,r1,_⟩:=Z5j ul (Z8d hy)
  have ap:y.1≠0→Zd7 y.2 0 ((upS l (j+1)).take j) = -1:=fun y0=>by
   rw[Z37 (by omega)]
   refine Zb0 fun z hz z0=>?_
   obtain⟨i,hi⟩:=List.mem_iff_getElem?.1 hz
   have il:i<j:=by
    rcases Nat.lt_or_ge i j with q|q
    ·exact q
    ·rw[List.getElem?_eq_none (by rw[List.length_take]; omega)] at hi; cases hi
   rw[List.getElem?_take_of_lt il] at hi
   exact S.ap i j z y hi hy il z0 y0
  have cN:=fun {h:Go.Ev.H} (hP:h.get P=some (.row 16 [Og (upS l (j+1))] false)) (pl:P<h.next)=>Zy4 Hh ul (n:=j) (by omega) y.2 hP pl
  have e1:=Mt (upS l (j+1))
  rw[ul] at e1
  obtain⟨z15,r15⟩:∃ z,read1 16 [Og (upS l (j+1))] 15=some z:=⟨_,show (Og (upS l (j+1)))[15]? = some _ from List.getElem?_eq_getElem (by omega)⟩
  obtain⟨R1,hR1⟩:∃ R,Og (upS l (j+1))=R:=⟨_,rfl⟩
  obtain⟨R0,hR0⟩:∃ R,Og (upS l j)=R:=⟨_,rfl⟩
  have hP':=hP
  rw[hR0] at hP' w
  simp only[hR1] at w r0 r1 cN e1 r15
  obtain⟨nv,hnv⟩:∃ nv,Zd7 y.2 0 ((upS l (j+1)).take j)=nv:=⟨_,rfl⟩
  rw[hnv] at ap
  simp only[hnv] at cN
  obtain⟨u,v⟩:=y
  unfold slC at c2 w
  simp only at r0 r1 c2 w ap cN
  have dd:decide ((j:Int)<8)=true:=decide_eq_true (by omega)
  have fin:∀ (ts1:Zx) (hA:Go.Ev.H),hA.next=h.next→(∀ m,m≠P→hA.get m=h.get m)→hA.get P=some (.row 16 [R1] false)→Zh ts1 0=.w (.c (.ptr p 0))→Zh ts1 2=.w (.c (.ptr P 0))→Zh ts1 5=.w (.c (.int .i64 (((j+1:Nat)):Int)))→Ye 38 none (q99 [1,0,1,2]) [] ts1 hA fun x ds' ts' h'=>x=.exit 0∧Zh ts' 2=.w (.c (.ptr P 0))∧ds'=[]∧h'.get P=some (.row 16 [Og l] false)∧P<h'.next∧∀ m,m<h.next→m≠P→h'.get m=h.get m:=fun ts1 hA nA kA gA u0 u2 u5=>by
   rw[←hR1] at gA
   refine (ih (j+1) ts1 hA (by omega) ((kA p ne).trans hp) (by omega) gA (by omega) ne u0 u2 u5).mono ?_
   rintro x1 ds1 ts2 h2 ⟨e1,e2,e3,e4,e5,e6⟩
   exact⟨e1,e2,e3,e4,e5,fun m m1 m2=>(e6 m (by omega) m2).trans (kA m m2)⟩
  by_cases u0:u=0
  ·have ui:((u:Int) != 0)=false:=by subst u0; rfl
   have Jf:=Vu @t0 @t2 @t5 @hp @hP' @w @dd @Nat.zero_add
   iterate 12 (first|apply Zk|apply Zw|apply Yt|apply Je|refine Goes.Zi Z5 ?_|refine Zq Hh Za Z5 ?_)
   iterate 6 (first|apply Zk|apply Zw|refine Goes.Zi Z5 ?_|refine Zq Hh (Zp (Zp Za c1) c2) Z5 ?_)
   refine Uc fun hA eA=>?_
   have nA:hA.next=h.next:=by rw[eA,H.Zd]
   have kA:∀ m,m≠P→hA.get m=h.get m:=fun m hne=>by rw[eA,Ze hne]
   have gA:hA.get P=some (.row 16 [R1] false):=by rw[eA,Zz]
   clear eA
   have Jf:=Vu Jf @gA @r0 @r1 @ui @Nat.add_zero @tA1 @tA0
   iterate 4 (first|apply Zw|refine Goes.Zi Z5 ?_|refine Zq Hh Za Z5 ?_|refine Ed Hh Za Z3g ?_)
   show Ye 38 none (q99 [1,0,1,2]) _ _ _ _
   refine fin _ hA nA kA gA ?_ ?_ ?_
   ·have Jf:=@t0; exact Zj
   ·have Jf:=@t2; exact Zj
   ·exact Zc
  ·have ui:((u:Int) != 0)=true:=Mr (by omega)
   rw[ap u0] at cN
   have Jf:=Vu @t0 @t2 @t5 @hp @hP' @w @dd @Nat.zero_add
   iterate 12 (first|apply Zk|apply Zw|apply Yt|apply Je|refine Goes.Zi Z5 ?_|refine Zq Hh Za Z5 ?_)
   iterate 6 (first|apply Zk|apply Zw|refine Goes.Zi Z5 ?_|refine Zq Hh (Zp (Zp Za c1) c2) Z5 ?_)
   refine Uc fun hA eA=>?_
   have nA:hA.next=h.next:=by rw[eA,H.Zd]
   have kA:∀ m,m≠P→hA.get m=h.get m:=fun m hne=>by rw[eA,Ze hne]
   have gA:hA.get P=some (.row 16 [R1] false):=by rw[eA,Zz]
   clear eA
   have c7:=cN gA (by omega)
   have Jf:=Uq Jf @gA @r0 (Yu @r1 @ui @Zrc @tA1 @tA0 @e1 @r15 @Nat.add_zero @Nat.sub_zero)
   iterate 4 (first|apply Zw|refine Goes.Zi Eo ?_|refine Zq Hh (Zp Za c7) Eo ?_|refine Ed Hh (Zp Za c7) Z0s ?_)
   show Ye 38 none (q99 [1,0,1,2]) _ _ _ _
   refine fin _ hA nA kA gA ?_ ?_ ?_
   ·have Jf:=@t0; exact Zj
   ·have Jf:=@t2; exact Zj
   ·exact Zc
theorem Ztz (S:SlV V l) {h:Go.Ev.H} {p:Nat} (hp:h.get p=some (.row 256 [pgL V] false)) (pl:p<h.next):Zg 99 [.c (.ptr p 0)] h (.tup [.g (Og l),.c (.bool true)]) h:=by
 have e1:=Mt l
 rw[S.ll] at e1
 have f1:(Og l).all C.flat=true:=by
  simp [Og,slC,C.flat]
 refine Gt (show ((Og l).all C.flat&&(true&&true))=true by rw[f1]; rfl) ?_
 have lp:=fun P ts h=>Z2p Hh S (p:=p) (P:=P) 8 0 ts h
 obtain⟨R,hR⟩:∃ R,Og l=R:=⟨_,rfl⟩
 rw[hR] at e1
 simp only[hR] at lp ⊢
 refine Yg Hh Tryz.f99 ?_
 iterate 6 (first|apply Zk|apply Yt|refine Zq Hh Za Zc ?_)
 refine (lp h.next _ _ trivial (by rw[Z8 (by omega)]; exact hp) (by rw[H.Zb]; omega) ?_ (by rw[H.Zb]; omega) (by omega) ?_ ?_ ?_).mono ?_
 ·rw[U8]; rfl
 ·exact Zc
 ·exact Zc
 ·exact Zc
 rintro x1 ds1 ts1 h1 ⟨rfl,t2,rfl,g1,n1,k1⟩
 have Jf:=Jb @t2 @g1 @e1
 iterate 3 (first|apply Zk|apply Z0|refine Zq Hh Za Z5 ?_)
 exact⟨_,_,Z5,rfl,fun m hm=>by rw[Ze (by omega),k1 m (by rw[H.Zb]; omega) (by omega),Z8 (by omega)]⟩
theorem Zzm (S:SlV V l) (h:Go.Ev.H):∃ p h',Zg 136 [.g (pgL V)] h (.tup [.c (.slice p 0 8 2),.c (.int .i64 0)]) h'∧h'.get p=some (.row 16 [Og l] false)∧h.next≤p∧p<h'.next∧∀ m,m<h.next→h'.get m=h.get m:=by
 have e1:=Mt l
 rw[S.ll] at e1
 have vl:(pgL V).length=256:=by rw[Jy,S.vl]
 have c1:=fun {h:Go.Ev.H} {p:Nat} (hp:h.get p=some (.row 256 [pgL V] false)) (pl:p<h.next)=>Ztz Hh S hp pl
 obtain⟨z15,r15⟩:∃ z,read1 16 [Og l] 15=some z:=⟨_,show (Og l)[15]? = some _ from List.getElem?_eq_getElem (by omega)⟩
 obtain⟨R,hR⟩:∃ R,Og l=R:=⟨_,rfl⟩
 obtain⟨X,hX⟩:∃ X,pgL V=X:=⟨_,rfl⟩
 rw[hR] at e1 r15 ⊢
 rw[hX] at vl ⊢
 simp only[hR,hX] at c1
 obtain⟨v,h',cc,p,rfl,q⟩:∃ v h',Zg 136 [.g X] h v h'∧∃ p,v=.tup [.c (.slice p 0 8 2),.c (.int .i64 0)]∧h'.get p=some (.row 16 [R] false)∧h.next≤p∧p<h'.next∧∀ m,m<h.next→h'.get m=h.get m:=by
  refine Yg Hh Tryz.f136 ?_
  have Jf:=Sy @e1 @r15 @vl @Zrc @tA1 @tA0
  iterate 3 (first|apply Zk|refine Zq Hh Za Eo ?_)
  refine Uc fun hA eA=>?_
  have nA:hA.next=h.next+1:=by rw[eA]; first|rfl|simp only[H.Zd,H.Zb]
  have kA:∀ m,m<h.next→hA.get m=h.get m:=fun m hm=>by rw[eA]; exact Yc
  have gA:hA.get h.next=some (.row 256 [X] false):=by rw[eA]; exact Z5
  clear eA
  have c2:=c1 gA (by omega)
  iterate 9 (first|apply Zk|apply Zw|apply Z0|refine Goes.Zi Eo ?_|refine Zq Hh (Zp Za c2) Eo ?_)
  refine⟨_,_,Yn,_,rfl,?_,?_,?_,fun m hm=>?_⟩
  ·first|exact Zz .. | (simp (maxSteps:=9^6) +decide (disch:=first|omega|(simp only[lens]<;>omega)|decide) only [go_sem,Zn,Zm,simprocAttr]; done)
  ·omega
  ·simp only[H.Zd,H.Zb]; omega
  ·refine Eq.trans ?_ (kA m hm); exact Yc
 exact⟨p,h',cc,q⟩
end
attribute [go_sem] ty106 sz106 ag106 de106 ze106 by106
theorem rs91:Tryz.f91.results.toList=[.tmp 6]:=rfl
theorem rs42:Tryz.f42.results.toList=[.tmp 4]:=rfl
attribute [go_sem] rs91 rs42
theorem Ybl (s:List UInt8):Jg K 9 (.str s)=true:=by kernel_rfl
section
variable (Hh:Hearts K Tryz.prog)
include Hh
variable {V:List Nat} {l:List Sl} {i:Nat} {x:Sl}
theorem Z53 (S:SlV V l) (hi:l[i]? = some sl0) (fi:∀ k y,k<i→l[k]? = some y→y.1≠0) {s:List UInt8} {u:Nat} (my:Vv s=true) (u0:0<u) (u1:u<4294967296) (ha:∀ y∈l,y.1≠0→y.2≠s) {h:Go.Ev.H} {p:Nat} (hp:h.get p=some (.row 256 [pgL V] false)) (pl:p<h.next) :
  ∃ h',Zg 91 [.c (.ptr p 0),.c (.str s),.c (.int .u32 (u:Int))] h (.w (.c (.int .i64 0))) h'∧h'.get p=some (.row 256 [pgL (Xc V i (u,s))] false)∧h.next≤h'.next∧∀ m,m<h.next→m≠p→h'.get m=h.get m:=by
 have i8:=S.lt hi
 have vl:=S.vl
 have e1:=Mt l
 rw[S.ll] at e1
 have l27:=Zb3 my
 have cR:=Ztz Hh S hp pl
 have cM:=fun h=>Zn6 Hh s h
 rw[my] at cM
 have nn:Zd7 s 0 (l.take 8) = -1:=by
  rw[List.take_of_length_le (by rw[S.ll]; omega)]
  exact Zb0 ha
 have ff:Zjf 0 l=(i:Int):=by
  have:=Zrt (j:=0) hi rfl fi
  rw[Nat.zero_add] at this
  exact this
 have cN:=fun {h:Go.Ev.H} {P:Nat} (hP:h.get P=some (.row 16 [Og l] false)) (pl:P<h.next)=>Zy4 Hh S.ll (n:=8) (by omega) s hP pl
 have cF:=fun {h:Go.Ev.H} {P:Nat} (hP:h.get P=some (.row 16 [Og l] false)) (pl:P<h.next)=>Yby Hh S.ll hP pl
 rw[nn] at cN
 rw[ff] at cF
 have cC:=fun {h:Go.Ev.H} (hp:h.get p=some (.row 256 [pgL V] false))=>Zyw Hh hp vl i8
 obtain⟨z15,r15⟩:∃ z,read1 16 [Og l] 15=some z:=⟨_,show (Og l)[15]? = some _ from List.getElem?_eq_getElem (by omega)⟩
 obtain⟨R,hR⟩:∃ R,Og l=R:=⟨_,rfl⟩
 rw[hR] at e1 r15
 simp only[hR] at cN cF cR
 have ui:((u:Int) == 0)=false:=Ee (by omega)
 have gi:decide ((i:Int)<0)=false:=decide_eq_false (by omega)
 have lf:=Zue
 have sf:=Ybl
 obtain⟨n,hn⟩:∃ n,s.length=n:=⟨_,rfl⟩
 have wn:Z4 256 [pgL (Jq V (32 * i) u)] (32 * i+4) [.int .u8 (n:Int)]=some [pgL ((Jq V (32 * i) u).set (32 * i+4) n)]:=by
  have:=Z6r (ns:=Jq V (32 * i) u) (i:=32 * i+4) (v:=n) ⟨by omega,by rw[Yh,vl]; omega⟩
  rw[Nat.mod_eq_of_lt (by omega)] at this
  exact this
 have vl2:((Jq V (32 * i) u).set (32 * i+4) n).length=256:=by rw[List.length_set,Yh,vl]
 have wb:Jr .u8 (n:Int)=.int .u8 (n:Int):=Zgg (by omega)
 have av:cpN ((Jq V (32 * i) u).set (32 * i+4) n) (32 * i+5) (s.map UInt8.toNat)=Xc V i (u,s):=by unfold Xc; rw[←hn]
 have s27:32 - 5=27:=rfl
 have cS:=fun {h:Go.Ev.H} {te:TI} (t1:te.size=1) (hb:h.get p=some (.row 256 [pgL ((Jq V (32 * i) u).set (32 * i+4) n)] false))=>Z5y (f:=32 * i+5) (l:=27) (s:=s) t1 hb vl2 (by omega) (by omega) (by omega)
 rw[hn] at cS
 simp only[av] at cS
 have p4l:=Yh V (32 * i) u
 rw[vl] at p4l
 obtain⟨X4,hX4⟩:∃ X,Jq V (32 * i) u=X:=⟨_,rfl⟩
 rw[hX4] at wn vl2 p4l
 simp only[hX4] at cS
 have r255:=Zpm (ns:=X4) (i:=255) ⟨by omega,by omega⟩
 obtain⟨X5,hX5⟩:∃ X,X4.set (32 * i+4) n=X:=⟨_,rfl⟩
 rw[hX5] at wn vl2
 simp only[hX5] at cS
 obtain⟨X6,hX6⟩:∃ X,Xc V i (u,s)=X:=⟨_,rfl⟩
 rw[hX6]
 simp only[hX6] at cS
 refine Ou ?_
 refine Yg Hh Tryz.f91 ?_
 have Jf:=Sy @e1 @r15 @ui @gi @lf (Yu @hp @vl @hX4 @hn @Zrc @tA1 @tA0 @Nat.add_zero @Nat.zero_add)
 iterate 8 (first|apply Zk|apply Zw|refine Goes.Zi Fy ?_|refine Zq Hh Za Fy ?_)
 iterate 8 (first|apply Zk|apply Zw|refine Goes.Zi Fy ?_|refine Zq Hh (Zp Za cR) Fy ?_)
 refine Uc fun hA eA=>?_
 have nA:hA.next=h.next+1:=by rw[eA]; first|rfl|simp only[H.Zd,H.Zb]
 have kA:∀ m,m<h.next→hA.get m=h.get m:=fun m hm=>by rw[eA]; exact Yc
 have gA:hA.get h.next=some (.row 16 [R] false):=by rw[eA]; exact Z5
 clear eA
 have pA:=(kA p pl).trans hp
 have c6:=cN gA (by omega)
 have c8:=cF gA (by omega)
 have c11:=cC pA
 have Jf:=Jb Jf @gA @pA
 iterate 4 (first|apply Zk|apply Zw|refine Goes.Zi Fy ?_|refine Zq Hh (Yp (Zp Za c6) cM) Fy ?_)
 iterate 7 (first|apply Zk|apply Zw|refine Goes.Zi Fy ?_|refine Zq Hh (Zp Za c8) Fy ?_)
 iterate 2 (first|apply Zk|refine Zq Hh (Zp Za c11) Fy ?_)
 iterate 2 (first|apply Zk|refine Zq Hh (EY Za (Zdz Hh)) Fy ?_)
 refine Uc fun hB eB=>?_
 have nB:hB.next=h.next+1:=by rw[eB]; simp only[H.Zd,nA]
 have kB:∀ m,m<h.next→m≠p→hB.get m=h.get m:=fun m hm hne=>by rw[eB,Ze hne]; exact kA m hm
 have gB:hB.get p=some (.row 256 [pgL X4] false):=by rw[eB,Zz]
 clear eB
 have Jf:=Uq Jf @gB @wn @wb
 iterate 2 (first|apply Zk|refine Zq Hh Za Fy ?_)
 refine Uc fun hC eC=>?_
 have nC:hC.next=h.next+1:=by rw[eC]; simp only[H.Zd,nB]
 have kC:∀ m,m<h.next→m≠p→hC.get m=h.get m:=fun m hm hne=>by rw[eC,Ze hne]; exact kB m hm hne
 have gC:hC.get p=some (.row 256 [pgL X5] false):=by rw[eC,Zz]
 clear eC
 have cP:=fun {te:TI} (t1:te.size=1)=>cS t1 gC
 iterate 4 (first|apply Zk|apply Z0|(apply Goes.ops2 fits Hh Za; · simp (maxSteps:=9^6) +decide (disch:=first|omega|(simp only[lens]<;>omega)|decide) only [go_sem,Zm,simprocAttr,e1,r15,ui,gi,lf,hp,vl,hX4,hn,Zrc,tA1,tA0,Nat.add_zero,Nat.zero_add,gA,pA,gB,wn,wb,gC,cP,sf,s27,Zb4,Zr,J3,Oq,Du,bound,La,reaches]<;>rfl))
 refine⟨_,_,Zc,rfl,Zz ..,?_,fun m hm hne=>?_⟩
 ·simp only[H.Zd]; omega
 ·rw[Ze hne]; exact kC m hm hne
theorem Z6k (S:SlV V l) (hi:l[i]? = some x) (x0:x.1≠0) {h:Go.Ev.H} {p:Nat} (hp:h.get p=some (.row 256 [pgL V] false)) (pl:p<h.next) :
  ∃ h',Zg 42 [.c (.ptr p 0),.c (.str x.2)] h (.w (.c (.bool true))) h'∧h'.get p=some (.row 256 [pgL (Zfp V i)] false)∧h.next≤h'.next∧∀ m,m<h.next→m≠p→h'.get m=h.get m:=by
 have i8:=S.lt hi
 have vl:=S.vl
 have e1:=Mt l
 rw[S.ll] at e1
 have cR:=Ztz Hh S hp pl
 have nn:Zd7 x.2 0 (l.take 8)=(i:Int):=by
  rw[List.take_of_length_le (by rw[S.ll]; omega)]
  have:=Zrj (s:=x.2) (j:=0) hi x0 rfl fun k y hk hy y0=>S.ap k i y x hy hi hk y0 x0
  rw[Nat.zero_add] at this
  exact this
 have cN:=fun {h:Go.Ev.H} {P:Nat} (hP:h.get P=some (.row 16 [Og l] false)) (pl:P<h.next)=>Zy4 Hh S.ll (n:=8) (by omega) x.2 hP pl
 rw[nn] at cN
 have cC:=fun {h:Go.Ev.H} (hp:h.get p=some (.row 256 [pgL V] false))=>Zyw Hh hp vl i8
 obtain⟨z15,r15⟩:∃ z,read1 16 [Og l] 15=some z:=⟨_,show (Og l)[15]? = some _ from List.getElem?_eq_getElem (by omega)⟩
 obtain⟨R,hR⟩:∃ R,Og l=R:=⟨_,rfl⟩
 rw[hR] at e1 r15
 simp only[hR] at cN cR
 obtain⟨s,hs⟩:∃ s,x.2=s:=⟨_,rfl⟩
 rw[hs]
 simp only[hs] at cN
 have gi:decide ((i:Int)<0)=false:=decide_eq_false (by omega)
 have cS:=fun {h:Go.Ev.H} {te:TI} (t1:te.zero=.c (.int .u8 0)) (hb:h.get p=some (.row 256 [pgL V] false))=>Z4e (f:=32 * i) (k:=32) t1 hb vl (by omega) (by omega)
 have rv:cpN V (32 * i) (List.replicate 32 0)=Zfp V i:=rfl
 simp only[rv] at cS
 obtain⟨X6,hX6⟩:∃ X,Zfp V i=X:=⟨_,rfl⟩
 rw[hX6]
 simp only[hX6] at cS
 refine Ou ?_
 refine Yg Hh Tryz.f42 ?_
 have Jf:=M8 @e1 @r15 @gi @hp @Zrc @tA1 @tA0
 iterate 8 (first|apply Zk|apply Zw|refine Goes.Zi Eo ?_|refine Zq Hh Za Eo ?_)
 iterate 7 (first|apply Zk|apply Zw|refine Goes.Zi Eo ?_|refine Zq Hh (Zp Za cR) Eo ?_)
 refine Uc fun hA eA=>?_
 have nA:hA.next=h.next+1:=by rw[eA]; first|rfl|simp only[H.Zd,H.Zb]
 have kA:∀ m,m<h.next→hA.get m=h.get m:=fun m hm=>by rw[eA]; exact Yc
 have gA:hA.get h.next=some (.row 16 [R] false):=by rw[eA]; exact Z5
 clear eA
 have pA:=(kA p pl).trans hp
 have c6:=cN gA (by omega)
 have c9:=cC pA
 have cP:=cS (te:=ti5) rfl pA
 have Jf:=Uq Jf @gA @pA @cP
 iterate 7 (first|apply Zk|apply Zw|refine Goes.Zi Eo ?_|refine Zq Hh (Zp Za c6) Eo ?_)
 iterate 4 (first|apply Zk|apply Z0|refine Zq Hh (Zp Za c9) Eo ?_)
 refine⟨_,_,Zc,rfl,Zz ..,?_,fun m hm hne=>?_⟩
 ·simp only[H.Zd]; omega
 ·rw[Ze hne]; exact kA m hm
end
def SlB (b:Nat) (h:Go.Ev.H) (c:C) (l:List Nat):Prop:=SlI h c l∧∀ p o n z,c=.slice p o n z→b≤p∧p<h.next
theorem SlB.mono {b b':Nat} {h:Go.Ev.H} {c:C} {l:List Nat} (s:SlB b h c l) (le:b'≤b):SlB b' h c l:=⟨s.1,fun p o n z e=>⟨Nat.le_trans le (s.2 p o n z e).1,(s.2 p o n z e).2⟩⟩
theorem SlB.keep {b:Nat} {h h':Go.Ev.H} {c:C} {l:List Nat} (s:SlB b h c l) (nx:h.next≤h'.next) (k:∀ p,b≤p→p<h.next→h'.get p=h.get p):SlB b h' c l :=
 ⟨s.1.keep fun p o n z e=>k p (s.2 p o n z e).1 (s.2 p o n z e).2,fun p o n z e=>by
  have:=s.2 p o n z e
  omega⟩
theorem Ybj {b:Nat} {h:Go.Ev.H} {c:C} {l:List Nat} (s:SlB b h c l) (bh:b≤h.next) (hl:l.length≤4000) (x:Nat):∃ c' h',Ol (h.new (.row 1 [[.int .i64 (x:Int)]] false)) (some ti3) c (.slice h.next 0 1 1)=some (.w (.c c'),h')∧SlB b h' c' (l++[x])∧h.next≤h'.next∧∀ p,p<h.next→(∀ o k z,c≠.slice p o k z)→h'.get p=h.get p:=by
 obtain⟨s,sb⟩:=s
 rcases s with ⟨rfl,rfl⟩|⟨p,p1,rfl,pp⟩
 ·refine⟨_,_,Z8y _,⟨.inr ⟨h.next+1,by simp,rfl,?_⟩,fun p o n z e=>?_⟩,?_,fun p hp _=>?_⟩
  ·rw[Jv (by simp only[H.Zb]<;>omega)]; rfl
  ·cases e; simp only[H.Zb]; omega
  ·simp only[H.Zb]; omega
  ·rw[Z8 (by simp only[H.Zb]; omega),Z8 (by omega)]
 ·have sb':=sb p 0 _ _ rfl
  have ap:=Yba (h:=h) (L:=rwI l) [.int .i64 (x:Int)] pp sb'.2 (by rw[Zf7]; exact hl)
  rw[Zf7] at ap
  refine⟨_,_,ap,⟨.inr ⟨h.next+1,by simp,by rw[List.length_append]; rfl,?_⟩,fun p o n z e=>?_⟩,?_,fun p' hp ne=>?_⟩
  ·rw[←Z1c,Jv (by simp only[H.Zb,H.Yv]<;>omega)]
  ·cases e; simp only[H.Zb,H.Yv]; omega
  ·simp only[H.Zb,H.Yv]; omega
  ·have:p'≠p:=fun e=>ne _ _ _ (by rw[e])
   rw[Z8 (by simp only[H.Zb,H.Yv]; omega),Xw this,Z8 (by omega)]
theorem Zxq {n:Nat} {rd:Option Nat} {cd:Go.Code} {ds:List Nat} {ts:Zx} {h:Go.Ev.H} {Q:X→List Nat→Zx→Go.Ev.H→Prop} (g:∀ ts',ts'=ts→Ye n rd cd ds ts' h Q):Ye n rd cd ds ts h Q:=g ts rfl
theorem Zwj {nt l dd:Nat} {ps:List Nat} {ts tz:Zx} {A B:Go.Code} (ne:B≠A) {us:List W} {h:Go.Ev.H} {J:Zx→Go.Ev.H→Prop} {Q:Go.Ev.H→Prop} (z:U4 nt ps us ts=some tz)
  (hl:h.get l=some (.loop ts nt ps A B .ready none dd))
  (hA:Ye nt (some l) A [] tz h fun x ds' ts' h'=>x=.normal∧ds'=[]∧h'.get l=h.get l∧J ts' h')
  (hB:∀ ts' h',J ts' h'→Ye nt (some l) B [] ts' (h'.put l (.loop ts nt ps A B .busy none dd)) fun x _ _ h2=>x=.normal∧h2.get l=some (.loop ts nt ps A B .busy none dd)∧Q h2) :
  ∃ E h2,Sound K Tryz.prog E∧Jz E l (some us) h (some (.loop ts nt ps A B .ready none dd))=some (.val (.w (.c (.bool true))) (h2.put l (.loop ts nt ps A B .ready none dd)))∧Q h2:=by
 obtain⟨xa,ds1,ts1,h1,kA,rfl,rfl,gl,j⟩:=hA
 obtain⟨xb,ds2,ts2,h2,kB,rfl,g2,q⟩:=hB _ _ j
 have Sd:=Bj (Bj Za kB) kA
 obtain⟨E,h3,Sd2,r,rfl⟩:∃ E h3,Sound K Tryz.prog E∧Jz E l (some us) h (h.get l)=some (.val (.w (.c (.bool true))) h3)∧h3=h2.put l (.loop ts nt ps A B .ready none dd) :=
  ⟨_,_,Sd,Lg hl z (Eh ..) (gl.trans hl) (Qf (fun e=>ne (Task.code.inj e).1) |>.trans (Eh ..)) g2,rfl⟩
 rw[hl] at r
 exact⟨_,_,Sd2,r,q⟩
end Go.Proofs.YtecakmodlkbnaaaGreatDoor
