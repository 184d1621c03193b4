/- Slots of a directory's block: what their bytes tell. -/
import Derived.Test.YtmanipmhebgdbaaGreatDoorStrX
set_option maxRecDepth 100000
set_option maxHeartbeats 4000000
set_option linter.unusedSimpArgs false
set_option linter.unusedVariables false
set_option linter.unusedSectionVars false
namespace Go.Proofs.YtmanipmhebgdbaaGreatDoor
open Go.Ev
noncomputable section
abbrev Sl:=Nat × List UInt8
def sl0:Sl:=(0,[])
def Rp (s:List UInt8):Bool:=!(decide ((s.length:Int)<1) || decide ((s.length:Int) > 27) || Uk s [46] || Uk s [46,46])&&(decide (Go.Lib.indexByte s 47<0)&&decide (Go.Lib.indexByte s 0<0))
theorem Zdd {s:List UInt8} (h:Rp s=true):1<=s.length/\s.length<=27:=by
 unfold Rp at h
 simp only[aQ,Bool.not_eq_true',Bool.or_eq_false_iff,decide_eq_false_iff_not] at h
 omega
theorem Ep:∀ {a b:List UInt8},Uk a b=true ↔ a=b
 | [],[]=>by simp [Uk]
 | [],_ :: _=>by simp [Uk]
 | _ :: _,[]=>by simp [Uk]
 | a :: x,b :: y=>by
  have:=Ep (a:=x) (b:=y)
  simp [Uk,this]
theorem Zel {a b:List UInt8}:Uk a b=decide (a=b):=by
 by_cases h:a=b
 ·rw[decide_eq_true h]; exact Ep.2 h
 ·rw[decide_eq_false h]
  cases e:Uk a b with
  | false=>rfl
  | true=>exact absurd (Ep.1 e) h
def slB (x:Sl):Nat->Nat
 | 0=>x.1 % 256
 | 1=>x.1 / 256 % 256
 | 2=>x.1 / 256 / 256 % 256
 | 3=>x.1 / 256 / 256 / 256 % 256
 | 4=>x.2.length
 | j+5=>(x.2.getD j 0).toNat
def slC (x:Sl):List C:=[.int .u32 (x.1:Int),.str x.2]
def Oo (l:List Sl):List C:=l.flatMap slC
def Z21 (x:Sl):Prop:=x=sl0\/0<x.1/\x.1<4294967296/\Rp x.2=true
def apS (l:List Sl):Prop:=∀ (i j:Nat) (x y:Sl),l[i]? = some x->l[j]? = some y->i<j->x.1≠0->y.1≠0->x.2≠y.2
structure SlV (V:Lq) (l:List Sl):Prop where
 vl:V.length=256
 ll:l.length=8
 at_:∀ i x,l[i]? = some x->∀ j,j<32->atN V (32 * i+j)=slB x j
 ok:∀ x∈l,Z21 x
 ap:apS l
theorem Ztw {x:Sl} {j:Nat} (h:5+x.2.length<=j):slB x j=0:=by
 obtain⟨k,rfl⟩:∃ k,j=k+5:=⟨j - 5,oM⟩
 show (x.2.getD k 0).toNat=0
 rw[List.getD_eq_getElem?_getD,lN oM]
 rfl
theorem Zwn (j:Nat):slB sl0 j=0:=by
 match j with
 | 0=>rfl
 | 1=>rfl
 | 2=>rfl
 | 3=>rfl
 | 4=>rfl
 | j+5=>exact Ztw (by show 5+0<=j+5; omega)
theorem Yav {x:Sl} {j:Nat} {b:UInt8} (h:x.2[j]? = some b):slB x (5+j)=b.toNat:=by
 rw[Nat.add_comm]
 show (x.2.getD j 0).toNat=_
 rw[List.getD_eq_getElem?_getD,h]
 rfl
section
variable {V:Lq} {l:List Sl} {i:Nat} {x:Sl}
theorem SlV.lt (_S:SlV V l) (h:l[i]? = some x):i<8:=by
 rcases Nat.lt_or_ge i 8 with q|q
 ·exact q
 ·rw[lN (by rw[_S.ll]; omega)] at h; cases h
theorem SlV.ino (S:SlV V l) (h:l[i]? = some x):Yk V (32 * i)=x.1:=by
 have b:x.1<4294967296:=by
  rcases S.ok x (lM h) with rfl|q
  ·show 0<_; omega
  ·exact q.2.1
 have a0:atN V (32 * i)=x.1 % 256:=S.at_ i x h 0 oM
 have a1:atN V (32 * i+1)=x.1 / 256 % 256:=S.at_ i x h 1 oM
 have a2:atN V (32 * i+2)=x.1 / 256 / 256 % 256:=S.at_ i x h 2 oM
 have a3:atN V (32 * i+3)=x.1 / 256 / 256 / 256 % 256:=S.at_ i x h 3 oM
 unfold Yk
 rw[a0,a1,a2,a3]
 omega
theorem SlV.len (S:SlV V l) (h:l[i]? = some x):atN V (32 * i+4)=x.2.length:=S.at_ i x h 4 oM
theorem SlV.void (S:SlV V l) (h:l[i]? = some sl0):Bv V (32 * i) 32=true:=by
 have:=S.lt h
 refine Z4o (by rw[S.vl]; omega) fun j hj=>?_
 rw[S.at_ i _ h j hj,Zwn]
theorem SlV.rest (S:SlV V l) (h:l[i]? = some x) (l27:x.2.length<=27):Bv V (32 * i+(5+x.2.length)) (32 - (5+x.2.length))=true:=by
 have:=S.lt h
 refine Z4o (by rw[S.vl]; omega) fun j hj=>?_
 rw[show 32 * i+(5+x.2.length)+j=32 * i+(5+x.2.length+j) by omega,S.at_ i _ h _ oM]
 exact Ztw oM
theorem SlV.nm (S:SlV V l) (h:l[i]? = some x) (l27:x.2.length<=27):∀ j (b:UInt8),x.2[j]? = some b->atN V (32 * i+5+j)=b.toNat:=fun j b hb=>by
 have jl:j<x.2.length:=by
  rcases Nat.lt_or_ge j x.2.length with q|q
  ·exact q
  ·rw[lN q] at hb; cases hb
 rw[Nat.add_assoc,S.at_ i _ h _ oM]
 exact Yav hb
def Vo (V:Lq) (i:Nat) (x:Sl):Lq:=cpN ((Jz V (32 * i) x.1).set (32 * i+4) x.2.length) (32 * i+5) (x.2.map UInt8.toNat)
theorem SlV.add (S:SlV V l) (h:l[i]? = some sl0) (hx:Z21 x) (ha:∀ y∈l,y.1≠0->y.2≠x.2) (l27:x.2.length<=27):SlV (Vo V i x) (l.set i x):=by
 have i8:=S.lt h
 have vl:=S.vl
 have ll:=S.ll
 have l1:((Jz V (32 * i) x.1).set (32 * i+4) x.2.length).length=256:=by rw[List.length_set,Yj,vl]
 have fl:32 * i+5+(x.2.map UInt8.toNat).length<=((Jz V (32 * i) x.1).set (32 * i+4) x.2.length).length:=by rw[l1,List.length_map]; omega
 refine⟨by unfold Vo; rw[Zvr fl,l1],by rw[List.length_set,ll],fun k y hk j hj=>?_,fun y hy=>?_,fun k k' y y' hk hk' kk y0 y0'=>?_⟩
 ·have k8:k<8:=by
   rcases Nat.lt_or_ge k 8 with q|q
   ·exact q
   ·rw[lN (by rw[List.length_set,ll]; omega)] at hk; cases hk
  unfold Vo
  rw[Zzw fl,List.length_map,Zcm _ _ _ _ (by rw[Yj,vl]; omega)]
  unfold Jz
  rw[Zcm _ _ _ _ (by simp only[List.length_set,vl]; omega),Zcm _ _ _ _ (by simp only[List.length_set,vl]; omega),Zcm _ _ _ _ (by simp only[List.length_set,vl]; omega),Zcm _ _ _ _ (by rw[vl]; omega)]
  by_cases e:k=i
  ·subst e
   rw[List.getElem?_set_self oM] at hk
   cases hk
   match j,hj with
   | 0,_=>rw[if_neg oM,if_neg oM,if_neg oM,if_neg oM,if_neg oM,if_pos oM]; rfl
   | 1,_=>rw[if_neg oM,if_neg oM,if_neg oM,if_neg oM,if_pos oM]; rfl
   | 2,_=>rw[if_neg oM,if_neg oM,if_neg oM,if_pos oM]; rfl
   | 3,_=>rw[if_neg oM,if_neg oM,if_pos oM]; rfl
   | 4,_ =>
    rw[if_neg oM,if_pos oM]
    show x.2.length % 256=x.2.length
    omega
   | j+5,hj =>
    by_cases q:j<x.2.length
    ·rw[if_pos ⟨oM,oM⟩,show 32 * k+(j+5) - (32 * k+5)=j by omega]
     unfold atN slB
     simp only[List.getD_eq_getElem?_getD,List.getElem?_map,lG q,Option.map_some,Option.getD_some]
     exact Nat.mod_eq_of_lt (UInt8.toNat_lt _)
    ·rw[if_neg oM,if_neg oM,if_neg oM,if_neg oM,if_neg oM,if_neg oM,S.at_ k _ h _ hj,Zwn,Ztw oM]
  ·rw[List.getElem?_set_ne (Ne.symm e)] at hk
   rw[if_neg oM,if_neg oM,if_neg oM,if_neg oM,if_neg oM,if_neg oM]
   exact S.at_ k y hk j hj
 ·rcases List.mem_or_eq_of_mem_set hy with q|q
  ·exact S.ok y q
  ·rw[q]; exact hx
 ·by_cases e:k=i
  ·subst e
   rw[List.getElem?_set_self oM] at hk
   cases hk
   rw[List.getElem?_set_ne oM] at hk'
   exact Ne.symm (ha y' (lM hk') y0')
  ·rw[List.getElem?_set_ne (Ne.symm e)] at hk
   by_cases e':k'=i
   ·subst e'
    rw[List.getElem?_set_self oM] at hk'
    cases hk'
    exact ha y (lM hk) y0
   ·rw[List.getElem?_set_ne (Ne.symm e')] at hk'
    exact S.ap k k' y y' hk hk' kk y0 y0'
def Ze5 (V:Lq) (i:Nat):Lq:=cpN V (32 * i) (List.replicate 32 0)
theorem SlV.rem (S:SlV V l) (h:l[i]? = some x):SlV (Ze5 V i) (l.set i sl0):=by
 have i8:=S.lt h
 have vl:=S.vl
 have ll:=S.ll
 have fl:32 * i+(List.replicate 32 0).length<=V.length:=by rw[vl,List.length_replicate]; omega
 refine⟨by unfold Ze5; rw[Zvr fl,vl],by rw[List.length_set,ll],fun k y hk j hj=>?_,fun y hy=>?_,fun k k' y y' hk hk' kk y0 y0'=>?_⟩
 ·unfold Ze5
  rw[Zzw fl,List.length_replicate]
  by_cases e:k=i
  ·subst e
   rw[List.getElem?_set_self oM] at hk
   cases hk
   rw[if_pos ⟨oM,oM⟩,Zwn]
   unfold atN
   rw[List.getD_eq_getElem?_getD,List.getElem?_replicate]
   split<;>rfl
  ·rw[List.getElem?_set_ne (Ne.symm e)] at hk
   rw[if_neg oM]
   exact S.at_ k y hk j hj
 ·rcases List.mem_or_eq_of_mem_set hy with q|q
  ·exact S.ok y q
  ·rw[q]; exact .inl rfl
 ·by_cases e:k=i
  ·subst e
   rw[List.getElem?_set_self oM] at hk
   cases hk
   exact absurd rfl y0
  ·rw[List.getElem?_set_ne (Ne.symm e)] at hk
   by_cases e':k'=i
   ·subst e'
    rw[List.getElem?_set_self oM] at hk'
    cases hk'
    exact absurd rfl y0'
   ·rw[List.getElem?_set_ne (Ne.symm e')] at hk'
    exact S.ap k k' y y' hk hk' kk y0 y0'
end
def sl8:List Sl:=List.replicate 8 sl0
theorem Ydh:SlV (List.replicate 256 0) sl8:=by
 refine⟨rfl,rfl,fun i x hx j hj=>?_,fun x hx=>.inl (List.eq_of_mem_replicate hx),fun i j x y hx _ _ x0=>?_⟩
 ·obtain rfl:x=sl0:=List.eq_of_mem_replicate (lM hx)
  rw[Zwn]
  unfold atN
  rw[List.getD_eq_getElem?_getD,List.getElem?_replicate]
  split<;>rfl
 ·obtain rfl:x=sl0:=List.eq_of_mem_replicate (lM hx)
  exact absurd rfl x0
theorem Nv:∀ l:List Sl,(Oo l).length=2 * l.length
 | []=>rfl
 | x :: l=>by
  show (slC x++Oo l).length=_
  rw[List.length_append,Nv l,List.length_cons]
  show 2+_=_
  omega
theorem Zwo:∀ {l:List Sl} {i:Nat} {x:Sl},l[i]? = some x->(Oo l)[2 * i]? = some (.int .u32 (x.1:Int))/\(Oo l)[2 * i+1]? = some (.str x.2)/\((Oo l).drop (2 * i)).take 2=slC x
 | [],_,_,h=>by simp at h
 | y :: l,0,x,h=>by
  obtain rfl:y=x:=by simpa using h
  exact⟨rfl,rfl,rfl⟩
 | y :: l,i+1,x,h=>by
  obtain⟨h1,h2,h3⟩:=Zwo (l:=l) (i:=i) (x:=x) (by simpa using h)
  exact⟨h1,h2,h3⟩
theorem Zrh:∀ {l:List Sl} {i:Nat} (x:Sl),i<l.length->(Oo l).take (2 * i)++slC x++(Oo l).drop (2 * i+2)=Oo (l.set i x)
 | [],_,_,h=>by simp at h
 | y :: l,0,x,_=>rfl
 | y :: l,i+1,x,h=>by
  have:=Zrh (l:=l) (i:=i) x (by simpa using h)
  show slC y++((Oo l).take (2 * i)++slC x++(Oo l).drop (2 * i+2))=slC y++Oo (l.set i x)
  rw[this]
theorem Z7b {l:List Sl} {i:Nat} {x:Sl} (ll:l.length=8) (h:l[i]? = some x):read1 16 [Oo l] (i * 2)=some (.int .u32 (x.1:Int))/\read1 16 [Oo l] (i * 2+1)=some (.str x.2)/\Zm 16 [Oo l] (i * 2) 2=some (slC x):=by
 have i8:i<8:=by
  rcases Nat.lt_or_ge i 8 with q|q
  ·exact q
  ·rw[lN oM] at h; cases h
 obtain⟨h1,h2,h3⟩:=Zwo h
 have sl:=Nv l
 rw[Nat.mul_comm i 2]
 unfold read1 Zm
 rw[Nat.div_eq_of_lt oM,Nat.mod_eq_of_lt oM,Nat.div_eq_of_lt oM,Nat.mod_eq_of_lt oM,List.getElem?_cons_zero]
 refine⟨h1,h2,?_⟩
 rw[Qq dM,cond_false]
 simp only
 rw[sl,ll,Qs oM,cond_true,h3]
theorem Yex {l:List Sl} {i:Nat} (x:Sl) (ll:l.length=8) (h:i<8):Z0 16 [Oo l] (i * 2) (slC x)=some [Oo (l.set i x)]:=by
 have sl:=Nv l
 have e:=Zrh (l:=l) (i:=i) x oM
 rw[Nat.mul_comm i 2]
 unfold slC at e ⊢
 unfold Z0
 simp only
 rw[Nat.div_eq_of_lt oM,Nat.mod_eq_of_lt oM,List.getElem?_cons_zero]
 simp only[List.length_cons,List.length_nil]
 rw[sl,ll,Qs oM,cond_true]
 show some [_]=_
 rw[<-e]
theorem tA1 (x:Go.Operand):(some x).toArray.toList=[x]:=rfl
theorem tA0:(none:Option Go.Operand).toArray.toList=[]:=rfl
theorem rd20 (a b:C):read1 2 [[a,b]] 0=some a:=rfl
theorem rd21 (a b:C):read1 2 [[a,b]] 1=some b:=rfl
def Zeu (s:List UInt8):Nat->List Sl->Int
 | _,[]=>-1
 | j,x :: r=>if x.1≠0/\x.2=s then (j:Int) else Zeu s (j+1) r
def Zh4:Nat->List Sl->Int
 | _,[]=>-1
 | j,x :: r=>if x.1=0 then (j:Int) else Zh4 (j+1) r
theorem Zde {s:List UInt8}:∀ {l:List Sl} {j:Nat},(∀ x∈l,x.1≠0->x.2≠s)->Zeu s j l = -1
 | [],_,_=>rfl
 | x :: l,j,h=>by
  unfold Zeu
  rw[if_neg fun w=>h x (List.mem_cons_self ..) w.1 w.2]
  exact Zde fun y hy=>h y (List.mem_cons_of_mem _ hy)
theorem Ztb {s:List UInt8}:∀ {l:List Sl} {j i:Nat} {x:Sl},l[i]? = some x->x.1≠0->x.2=s->(∀ k y,k<i->l[k]? = some y->y.1≠0->y.2≠s)->Zeu s j l=((j+i:Nat):Int)
 | [],_,_,_,h,_,_,_=>by simp at h
 | y :: l,j,0,x,h,h0,h1,_=>by
  obtain rfl:y=x:=by simpa using h
  unfold Zeu
  rw[if_pos ⟨h0,h1⟩]
  rfl
 | y :: l,j,i+1,x,h,h0,h1,h2=>by
  unfold Zeu
  rw[if_neg fun w=>h2 0 y oM rfl w.1 w.2,Ztb (l:=l) (j:=j+1) (i:=i) (x:=x) (by simpa using h) h0 h1 fun k y hk hy=>h2 (k+1) y oM (by simpa using hy)]
  omega
theorem Zqe:∀ {l:List Sl} {j:Nat},(∀ x∈l,x.1≠0)->Zh4 j l = -1
 | [],_,_=>rfl
 | x :: l,j,h=>by
  unfold Zh4
  rw[if_neg (h x (List.mem_cons_self ..))]
  exact Zqe fun y hy=>h y (List.mem_cons_of_mem _ hy)
theorem Zsy:∀ {l:List Sl} {j i:Nat} {x:Sl},l[i]? = some x->x.1=0->(∀ k y,k<i->l[k]? = some y->y.1≠0)->Zh4 j l=((j+i:Nat):Int)
 | [],_,_,_,h,_,_=>by simp at h
 | y :: l,j,0,x,h,h0,_=>by
  obtain rfl:y=x:=by simpa using h
  unfold Zh4
  rw[if_pos h0]
  rfl
 | y :: l,j,i+1,x,h,h0,h2=>by
  unfold Zh4
  rw[if_neg (h2 0 y oM rfl),Zsy (l:=l) (j:=j+1) (i:=i) (x:=x) (by simpa using h) h0 fun k y hk hy=>h2 (k+1) y oM (by simpa using hy)]
  omega
theorem ty9:K.types.get 9=some ti9:=kR
theorem sz9:ti9.size=1:=by rfl
theorem ag9:ti9.agg=false:=by rfl
theorem de9:ti9.desc=.string:=by rfl
theorem ty97:K.types.get 97=some ti97:=kR
theorem sz97:ti97.size=2:=by rfl
theorem ag97:ti97.agg=true:=by rfl
theorem fo97_0:Zw K 97 0=some (0,ti40):=kR
theorem fo97_1:Zw K 97 1=some (1,ti9):=kR
theorem bu97 (ps:List (Nat × W)):Yr K 97 (some ps)=gW (Yh K 97 ps ti97.zero.cells):=kR
theorem ze97:ti97.zero=(.g ([.int .u32 0,.str []])):=by rfl
theorem ty173:K.types.get 173=some ti173:=kR
theorem de173:ti173.desc=(.slice 97):=by rfl
attribute [go_sem] ty9 sz9 ag9 de9 ty97 sz97 ag97 fo97_0 fo97_1 bu97 ze97 ty173 de173
noncomputable def q151 (p:Lq):Code:=piece p (J8 Tryz.f151)
noncomputable def q221 (p:Lq):Code:=piece p (J8 Tryz.f221)
theorem rs69:Tryz.f69.results.toList=[.tmp 2]:=rfl
theorem rs152:Tryz.f152.results.toList=[.tmp 4]:=rfl
theorem rs225:Tryz.f225.results.toList=[.cell 2 97,.tmp 3]:=rfl
theorem rs151:Tryz.f151.results.toList=[.tmp 4]:=rfl
theorem rs221:Tryz.f221.results.toList=[.tmp 2]:=rfl
attribute [go_sem] rs69 rs152 rs225 rs151 rs221
attribute [go_sem] xIB
theorem Z8l (s:List UInt8):Y4 K 9 (.c (.str s))=true:=kR
theorem Znw (p o l:Nat):Y4 K 173 (.c (.slice p o l 2))=true:=kR
section
variable (Hh:Hearts K Tryz.prog)
include Hh
theorem Zx6 (s:List UInt8) (h:Hq):Zb 69 [.c (.str s)] h (.w (.c (.bool (Rp s)))) h:=by
 have lf:=Z8l
 have e47:Nat.toUInt8 47=47:=rfl
 have e0:Nat.toUInt8 0=0:=rfl
 unfold Rp
 cases e1:decide ((s.length:Int)<1) with
 | true =>
  refine fnG Hh Tryz.f69 ?_
  repeat (first|apply Z6|apply Yx|apply Yc|((first|apply Goes.Zi|apply gO fits Hh (Rz Za (fun _ _ _ _=>Zcg))); · simp (maxSteps:=9^6) +decide (disch:=first|exact dZ|fail) only [go_sem,Zm,Zh,simprocAttr,lf,e1,Zr,Jl,R6]<;>rfl))
  have Jf:=@e1; exact Zq
 | false =>
  cases e2:decide ((s.length:Int) > 27) with
  | true =>
   refine fnG Hh Tryz.f69 ?_
   repeat (first|apply Z6|apply Yx|apply Yc|((first|apply Goes.Zi|apply gO fits Hh (Rz Za (fun _ _ _ _=>Zcg))); · simp (maxSteps:=9^6) +decide (disch:=first|exact dZ|fail) only [go_sem,Zm,Zh,simprocAttr,lf,e1,e2,Zr,Jl,R6]<;>rfl))
   have Jf:=Y2 @e1 @e2; exact Zq
  | false =>
   cases e3:Uk s [46] with
   | true =>
    refine fnG Hh Tryz.f69 ?_
    repeat (first|apply Z6|apply Yx|apply Yc|((first|apply Goes.Zi|apply gO fits Hh (Rz Za (fun _ _ _ _=>Zcg))); · simp (maxSteps:=9^6) +decide (disch:=first|exact dZ|fail) only [go_sem,Zm,Zh,simprocAttr,lf,e1,e2,e3,Zr,Jl,R6]<;>rfl))
    have Jf:=Jh @e1 @e2 @e3; exact Zq
   | false =>
    cases e4:Uk s [46,46] with
    | true =>
     refine fnG Hh Tryz.f69 ?_
     repeat (first|apply Z6|apply Yx|apply Yc|((first|apply Goes.Zi|apply gO fits Hh (Rz Za (fun _ _ _ _=>Zcg))); · simp (maxSteps:=9^6) +decide (disch:=first|exact dZ|fail) only [go_sem,Zm,Zh,simprocAttr,lf,e1,e2,e3,e4,Zr,Jl,R6]<;>rfl))
     have Jf:=J4 @e1 @e2 @e3 @e4; exact Zq
    | false =>
     cases e5:decide (Go.Lib.indexByte s 47<0) with
     | true =>
      refine fnG Hh Tryz.f69 ?_
      repeat (first|apply Z6|apply Yx|apply Yc|((first|apply Goes.Zi|apply gO fits Hh (Rz Za (fun _ _ _ _=>Zcg))); · simp (maxSteps:=9^6) +decide (disch:=first|exact dZ|fail) only [go_sem,Zm,Zh,simprocAttr,lf,e1,e2,e3,e4,e5,e47,e0,Zr,Jl,R6]<;>rfl))
      have Jf:=Gq @e1 @e2 @e3 @e4 @e5; exact Zq
     | false =>
      refine fnG Hh Tryz.f69 ?_
      repeat (first|apply Z6|apply Yx|apply Yc|((first|apply Goes.Zi|apply gO fits Hh (Rz Za (fun _ _ _ _=>Zcg))); · simp (maxSteps:=9^6) +decide (disch:=first|exact dZ|fail) only [go_sem,Zm,Zh,simprocAttr,lf,e1,e2,e3,e4,e5,e47,e0,Zr,Jl,R6]<;>rfl))
      have Jf:=Gq @e1 @e2 @e3 @e4 @e5; exact Zq
theorem Z0n {h:Hq} {p i:Nat} {V:Lq} (hp:h.get p=some (.row 256 [pgL V] false)) (vl:V.length=256) (i8:i<8):Zb 152 [.c (.ptr p 0),.c (.int .i64 (i:Int))] h (.w (.c (.slice p (32 * i) 32 1))) h:=by
 have w1:(32:Int) * (i:Int)=((32 * i:Nat):Int):=rfl
 have w2:(32:Int) * ((i:Int)+1)=((32 * i+32:Nat):Int):=oM
 have s1:32 * i+32 - 32 * i=32:=oM
 refine fnG Hh Tryz.f152 ?_
 repeat (first|apply Z6|apply Yc|((first|apply Goes.Zi|apply gO fits Hh Za); · simp (maxSteps:=9^6) +decide (disch:=first|exact dZ|fail) only [go_sem,Zm,Zh,simprocAttr,hp,w1,w2,s1,Zdi,Bf,bound,Zhl,given,reaches,tA1,tA0,Nat.zero_add]<;>rfl))
 exact Zd
variable {V:Lq} {l:List Sl} {i:Nat} {x:Sl}
theorem Yaw {h:Hq} {p:Nat} (S:SlV V l) (hx:l[i]? = some x) (hp:h.get p=some (.row 256 [pgL V] false)) (hst:p<h.next):Zb 225 [.c (.slice p (32 * i) 32 1)] h (.tup [.g (slC x),.c (.bool true)]) h:=by
 have i8:=S.lt hx
 have vl:=S.vl
 have hm:=fun h=>Zx6 Hh x.2 h
 have f4:=S.ino hx
 have z0:=slC
 refine Dx rfl ?_
 rcases S.ok x (lM hx) with rfl|⟨x0,x1,my⟩
 ·have v0:=S.void hx
  have n0:sl0.1=0:=rfl
  rw[n0] at f4
  refine Ym Hh Tryz.f225 ?_
  have Jf:=Gq @hp @f4 @vl @v0 @Nat.add_zero
  iterate 11 (first|refine Goes.Zi Uq ?_|refine Zn Hh (EY (EY Za (Mq Hh)) (Zbj Hh)) Uq ?_|apply gS)
  exact⟨_,_,(by simp (maxSteps:=9^6) +decide (disch:=first|exact dZ|fail) only [go_sem,Zm,Zh,simprocAttr,slC]<;>rfl),rfl,fun m hm=>by exact Yn⟩
 ·have l27:=Zdd my
  have v0:=S.rest hx l27.2
  have ln:=S.len hx
  have nm:=S.nm hx l27.2
  have lf:=Zv9
  rw[my] at hm
  have nz:((x.1:Int) == 0)=false:=Db oM
  obtain⟨xn,hxn⟩:∃ y,x.1=y:=⟨_,rfl⟩
  obtain⟨xs,hxs⟩:∃ y,x.2=y:=⟨_,rfl⟩
  have sp:=fun {h:Hq} (hp:h.get p=some (.row 256 [pgL V] false))=>Z7o (o:=32 * i+5) hp vl (s:=xs) (by rw[<-hxs]; omega) (by rw[<-hxs]; omega) (by rw[<-hxs]; exact nm)
  have sp:=sp (h:=h.new (.row 2 [[.int .u32 0,.str []]] false)) (by rw[Yf oM]; exact hp)
  unfold slC
  rw[hxn] at f4 nz ⊢
  rw[hxs] at ln v0 hm l27 ⊢
  obtain⟨n,hn⟩:=xzE (xs.length)
  simp only[hn] at ln v0 l27 sp
  have w5:(5:Int)+(n:Int)=((5+n:Nat):Int):=rfl
  have g5:decide (((5+n:Nat):Int) > 32)=false:=decide_eq_false oM
  have s5:5+n - 5=n:=oM
  refine Ym Hh Tryz.f225 ?_
  iterate 20 (first|((first|apply Goes.Zi|apply gO fits Hh (EY (EY Za (Mq Hh)) (Zbj Hh))); · simp (maxSteps:=9^6) +decide (disch:=first|exact dZ|fail) only [go_sem,Zh,simprocAttr,hp,f4,vl,v0,ln,nz,w5,g5,s5,sp,lf,tA1,tA0,Nat.add_zero,Zr,Jl,Uj,Bf,bound,Dy,reaches,Me,Zvp,Zaw,Ql]<;>rfl)|apply gS)
  iterate 6 (first|((first|apply Goes.Zi|apply gO fits Hh (Y3 Za hm)); · simp (maxSteps:=9^6) +decide (disch:=first|exact dZ|fail) only [go_sem,Zh,simprocAttr,hp,f4,vl,v0,ln,nz,w5,g5,s5,sp,lf,tA1,tA0,Nat.add_zero,Zr,Jl,Uj,Bf,bound,Dy,reaches,Me,Zvp,Zaw,Ql]<;>rfl)|apply gS)
  exact⟨_,_,Yi,rfl,fun m hm=>by exact Yn⟩
end
theorem ty259:K.types.get 259=some ti259:=kR
theorem sz259:ti259.size=16:=by rfl
theorem ag259:ti259.agg=true:=by rfl
theorem de259:ti259.desc=(.array 8 97):=by rfl
theorem ze259:ti259.zero=(.g ([.int .u32 0,.str [],.int .u32 0,.str [],.int .u32 0,.str [],.int .u32 0,.str [],.int .u32 0,.str [],.int .u32 0,.str [],.int .u32 0,.str [],.int .u32 0,.str []])):=by rfl
attribute [go_sem] ty259 sz259 ag259 de259 ze259
noncomputable def q150 (p:Lq):Code:=piece p (J8 Tryz.f150)
theorem rs150:Tryz.f150.results.toList=[.cell 2 259,.tmp 3]:=rfl
theorem rs168:Tryz.f168.results.toList=[.tmp 2,.tmp 3]:=rfl
attribute [go_sem] rs150 rs168
section
variable (Hh:Hearts K Tryz.prog)
include Hh
variable {V:Lq} {l:List Sl} {i:Nat} {x:Sl}
theorem Z6s (ll:l.length=8) {p n:Nat} (n8:n<=8) (s:List UInt8):∀ (k j:Nat) (ts:Zv) (h:Hq),j+k=n->(∀ i y,i<j->l[i]? = some y->y.1≠0->y.2≠s)->h.get p=some (.row 16 [Oo l] false)->p<h.next->Zg ts 1=.w (.c (.str s))->Zg ts 5=.w (.c (.int .i64 (-1)))->Zg ts 8=.w (.c (.slice p 0 n 2))->Zg ts 9=.w (.c (.int .i64 (n:Int)))->Zg ts 10=.w (.c (.int .i64 (j:Int))) ->
  Z9 28 none (q151 [1,2,1,1,0,1,2]) [] ts h fun x ds' ts' h'=>x=.exit 0/\Zg ts' 5=.w (.c (.int .i64 (Zeu s 0 (l.take n))))/\ds'=[]/\∀ m,m<h.next->h'.get m=h.get m:=by
 have tk:∀ {i:Nat} {y:Sl},i<n->l[i]? = some y->(l.take n)[i]? = some y:=fun h1 h2=>by rw[List.getElem?_take_of_lt h1]; exact h2
 intro k
 induction k with
 | zero =>
  intro j ts h hj b hp pl t1 t5 t8 t9 t10
  obtain rfl:j=n:=oM
  have nn:Zeu s 0 (l.take j) = -1:=Zde fun y hy y0=>by
   obtain⟨i,hi⟩:=List.mem_iff_getElem?.1 hy
   have il:i<j:=by
    rcases Nat.lt_or_ge i j with q|q
    ·exact q
    ·rw[lN (by rw[List.length_take]; omega)] at hi; cases hi
   rw[List.getElem?_take_of_lt il] at hi
   exact b i y il hi y0
  rw[nn]
  have dd:decide ((j:Int)<(j:Int))=false:=decide_eq_false oM
  have Jf:=Jh @t9 @t10 @dd
  iterate 6 (first|refine Goes.Zi Zq ?_|refine Zn Hh Za Zq ?_|apply gS)
  refine⟨rfl,?_,rfl,fun m hm=>rfl⟩
  simp (maxSteps:=9^6) +decide (disch:=first|exact dZ|fail) only [go_sem,Zm,Zh,simprocAttr,t5]
 | succ k ih =>
  intro j ts h hj b hp pl t1 t5 t8 t9 t10
  have jn:j<n:=oM
  obtain⟨y,hy⟩:∃ y,l[j]? = some y:=⟨_,lG oM⟩
  obtain⟨r0,r1,r2⟩:=Z7b ll hy
  obtain⟨R,hR⟩:=xzE (Oo l)
  have hp':=hp
  rw[hR] at hp' r0 r1 r2
  obtain⟨u,w⟩:=y
  unfold slC at r2
  simp only at r0 r1 r2
  have dd:decide ((j:Int)<(n:Int))=true:=decide_eq_true oM
  have wz:Z0 2 [[C.int .u32 0,.str []]] 0 [.int .u32 (u:Int),.str w]=some [[.int .u32 (u:Int),.str w]]:=rfl
  by_cases u0:u=0
  ·have ui:((u:Int) != 0)=false:=by subst u0; rfl
   iterate 16 (first|((first|apply Goes.Zi|apply gO fits Hh Za); · simp (maxSteps:=9^6) +decide (disch:=first|exact dZ|fail) only [go_sem,Zh,simprocAttr,t1,t8,t9,t10,hp',r2,dd,ui,wz,rd20,rd21,Nat.zero_add,R6]<;>rfl)|apply gS)
   show Z9 28 none (q151 [1,2,1,1,0,1,2]) _ _ _ _
   refine (ih (j+1) _ _ oM (fun i y hi hy' y0=>?_) ?_ ?_ ?_ ?_ ?_ ?_ ?_).mono ?_
   ·rcases Nat.lt_or_ge i j with q|q
    ·exact b i y q hy' y0
    ·obtain rfl:i=j:=oM
     rw[hy] at hy'
     cases hy'
     exact absurd u0 y0
   ·refine Eq.trans ?_ hp; exact Yn
   ·simp only[H.Zf,H.Ze]; omega
   ·have Jf:=@t1; exact Zq
   ·have Jf:=@t5; exact Zq
   ·have Jf:=@t8; exact Zq
   ·have Jf:=@t9; exact Zq
   ·exact Zd
   rintro x ds1 ts1 h1 ⟨rfl,r,rfl,k1⟩
   refine⟨rfl,r,rfl,fun m hm=>(k1 m (by simp only[H.Zf,H.Ze]; omega)).trans ?_⟩
   exact Yn
  ·have ui:((u:Int) != 0)=true:=Nn oM
   by_cases ws:w=s
   ·have es:Uk w s=true:=Ep.2 ws
    have na:=Ztb (s:=s) (l:=l.take n) (j:=0) (tk jn hy) u0 ws fun k y hk hy' y0=>by
     rw[List.getElem?_take_of_lt oM] at hy'
     exact b k y hk hy' y0
    rw[Nat.zero_add] at na
    rw[na]
    iterate 17 (first|apply Z6|apply Yx|apply Qj|apply Ea|apply E9|((first|apply Goes.Zi|apply gO fits Hh Za); · simp (maxSteps:=9^6) +decide (disch:=first|exact dZ|fail) only [go_sem,Zh,simprocAttr,t1,t8,t9,t10,hp',r2,dd,ui,es,wz,rd20,rd21,Nat.zero_add,R6]<;>rfl))
    refine⟨rfl,?_,rfl,fun m hm=>?_⟩
    ·have Jf:=@t10; exact Zq
    ·exact Yn
   ·have es:Uk w s=false:=by rw[Zel]; exact decide_eq_false ws
    iterate 16 (first|((first|apply Goes.Zi|apply gO fits Hh Za); · simp (maxSteps:=9^6) +decide (disch:=first|exact dZ|fail) only [go_sem,Zh,simprocAttr,t1,t8,t9,t10,hp',r2,dd,ui,es,wz,rd20,rd21,Nat.zero_add,R6]<;>rfl)|apply gS)
    show Z9 28 none (q151 [1,2,1,1,0,1,2]) _ _ _ _
    refine (ih (j+1) _ _ oM (fun i y hi hy' y0=>?_) ?_ ?_ ?_ ?_ ?_ ?_ ?_).mono ?_
    ·rcases Nat.lt_or_ge i j with q|q
     ·exact b i y q hy' y0
     ·obtain rfl:i=j:=oM
      rw[hy] at hy'
      cases hy'
      exact ws
    ·refine Eq.trans ?_ hp; exact Yn
    ·simp only[H.Zf,H.Ze]; omega
    ·have Jf:=@t1; exact Zq
    ·have Jf:=@t5; exact Zq
    ·have Jf:=@t8; exact Zq
    ·have Jf:=@t9; exact Zq
    ·exact Zd
    rintro x ds1 ts1 h1 ⟨rfl,r,rfl,k1⟩
    refine⟨rfl,r,rfl,fun m hm=>(k1 m (by simp only[H.Zf,H.Ze]; omega)).trans ?_⟩
    exact Yn
theorem Z1y (ll:l.length=8) {h:Hq} {p n:Nat} (n8:n<=8) (s:List UInt8) (hp:h.get p=some (.row 16 [Oo l] false)) (pl:p<h.next):Zb 151 [.c (.slice p 0 n 2),.c (.str s)] h (.w (.c (.int .i64 (Zeu s 0 (l.take n))))) h:=by
 have lf:=Znw
 refine Dx rfl ?_
 refine Ym Hh Tryz.f151 ?_
 have Jf:=@lf
 iterate 11 (first|apply Goes.scope|apply Goes.label|refine Zn Hh Za Ui ?_|apply gS)
 refine (Z6s Hh ll n8 s n 0 _ h oM (fun i y hi=>absurd hi oM) hp pl ?_ ?_ ?_ ?_ ?_).mono ?_
 ·exact Zd
 ·exact Zd
 ·exact Zd
 ·exact Zd
 ·exact Zd
 rintro x1 ds1 ts1 h1 ⟨rfl,t5,rfl,k1⟩
 have Jf:=@t5
 iterate 3 (first|refine Zn Hh Za Zq ?_|apply gS)
 exact⟨_,_,Zq,rfl,k1⟩
theorem Z5y (ll:l.length=8) {p:Nat}:∀ (k j:Nat) (ts:Zv) (h:Hq),j+k=8->(∀ i y,i<j->l[i]? = some y->y.1≠0)->h.get p=some (.row 16 [Oo l] false)->p<h.next->Zg ts 5=.w (.c (.slice p 0 8 2))->Zg ts 6=.w (.c (.int .i64 8))->Zg ts 7=.w (.c (.int .i64 (j:Int))) ->
  Z9 17 none (q221 [1,0,1,2]) [] ts h fun x ds' ts' h'=>((x=.ret/\Zg ts' 2=.w (.c (.int .i64 (Zh4 0 l))))\/(x=.exit 0/\Zh4 0 l = -1))/\ds'=[]/\∀ m,m<h.next->h'.get m=h.get m:=by
 intro k
 induction k with
 | zero =>
  intro j ts h hj b hp pl t5 t6 t7
  obtain rfl:j=8:=oM
  have nn:Zh4 0 l = -1:=Zqe fun y hy=>by
   obtain⟨i,hi⟩:=List.mem_iff_getElem?.1 hy
   have il:i<8:=by
    rcases Nat.lt_or_ge i 8 with q|q
    ·exact q
    ·rw[lN oM] at hi; cases hi
   exact b i y il hi
  have Jf:=Y2 @t6 @t7
  iterate 6 (first|refine Goes.Zi Zq ?_|refine Zn Hh Za Zq ?_|apply gS)
  exact⟨.inr ⟨rfl,nn⟩,rfl,fun m hm=>rfl⟩
 | succ k ih =>
  intro j ts h hj b hp pl t5 t6 t7
  have jn:j<8:=oM
  obtain⟨y,hy⟩:∃ y,l[j]? = some y:=⟨_,lG oM⟩
  obtain⟨r0,r1,r2⟩:=Z7b ll hy
  obtain⟨R,hR⟩:=xzE (Oo l)
  have hp':=hp
  rw[hR] at hp' r0 r1 r2
  obtain⟨u,w⟩:=y
  unfold slC at r2
  simp only at r0 r1 r2
  have dd:decide ((j:Int)<8)=true:=decide_eq_true oM
  have wz:Z0 2 [[C.int .u32 0,.str []]] 0 [.int .u32 (u:Int),.str w]=some [[.int .u32 (u:Int),.str w]]:=rfl
  by_cases u0:u=0
  ·have ui:((u:Int) == 0)=true:=by subst u0; rfl
   have fa:=Zsy (l:=l) (j:=0) hy u0 fun k y hk hy'=>b k y hk hy'
   rw[Nat.zero_add] at fa
   rw[fa]
   have Jf:=Jh @t5 @t6 (Yp @t7 @hp' @r2 @dd @ui @wz @rd20 @rd21 @Nat.zero_add)
   iterate 16 (first|refine Goes.Zi Zt ?_|refine Zn Hh Za Zt ?_|apply gS)
   refine⟨.inl ⟨rfl,?_⟩,rfl,fun m hm=>?_⟩
   ·exact Zq
   ·exact Yn
  ·have ui:((u:Int) == 0)=false:=Db oM
   have Jf:=Jh @t5 @t6 (Yp @t7 @hp' @r2 @dd @ui @wz @rd20 @rd21 @Nat.zero_add)
   iterate 15 (first|refine Goes.Zi Zt ?_|refine Zn Hh Za Zt ?_|apply gS)
   show Z9 17 none (q221 [1,0,1,2]) _ _ _ _
   refine (ih (j+1) _ _ oM (fun i y hi hy'=>?_) ?_ ?_ ?_ ?_ ?_).mono ?_
   ·rcases Nat.lt_or_ge i j with q|q
    ·exact b i y q hy'
    ·obtain rfl:i=j:=oM
     rw[hy] at hy'
     cases hy'
     exact u0
   ·refine Eq.trans ?_ hp; exact Yn
   ·simp only[H.Zf,H.Ze]; omega
   ·have Jf:=@t5; exact Zq
   ·have Jf:=@t6; exact Zq
   ·exact Zd
   rintro x ds1 ts1 h1 ⟨r,rfl,k1⟩
   refine⟨r,rfl,fun m hm=>(k1 m (by simp only[H.Zf,H.Ze]; omega)).trans ?_⟩
   exact Yn
theorem Ycd (ll:l.length=8) {h:Hq} {p:Nat} (hp:h.get p=some (.row 16 [Oo l] false)) (pl:p<h.next):Zb 221 [.c (.slice p 0 8 2)] h (.w (.c (.int .i64 (Zh4 0 l)))) h:=by
 have lf:=Znw
 refine Dx rfl ?_
 refine Ym Hh Tryz.f221 ?_
 have Jf:=@lf
 iterate 6 (first|refine Zn Hh Za Ui ?_|apply gS)
 refine (Z5y Hh ll 8 0 _ h oM (fun i y hi=>absurd hi oM) hp pl ?_ ?_ ?_).mono ?_
 ·exact Zd
 ·exact Zd
 ·exact Zd
 rintro x1 ds1 ts1 h1 ⟨⟨rfl,t2⟩|⟨rfl,e⟩,rfl,k1⟩
 ·exact⟨_,_,(by have Jf:=@t2; exact Zq),rfl,k1⟩
 ·rw[e]
  iterate 3 (first|refine Zn Hh Za Zd ?_|apply gS)
  exact⟨_,_,Zd,rfl,k1⟩
end
theorem Zx9 {ts:Zv} {h:Hq} (t:Go.TypeId) (x:Go.Operand) (lo hi:Option Go.Operand):Oa K ts h (.slice t x lo hi none)=Gt h (Uj K h (K.types.get t) (Z4 K ts x) (Bf K ts lo) (Bf K ts hi)):=rfl
def upS (l:List Sl) (j:Nat):List Sl:=l.take j++List.replicate (8 - j) sl0
theorem Zwr {l:List Sl} {j:Nat} (ll:l.length=8) (j8:j<=8):(upS l j).length=8:=by
 unfold upS; rw[List.length_append,List.length_take,List.length_replicate]; omega
theorem Z7z {l:List Sl} {j:Nat} {x:Sl} (ll:l.length=8) (h:l[j]? = some x):(upS l j).set j x=upS l (j+1):=by
 have j8:j<8:=by
  rcases Nat.lt_or_ge j 8 with q|q
  ·exact q
  ·rw[lN oM] at h; cases h
 have l1:(l.take j).length=j:=by rw[List.length_take]; omega
 unfold upS
 rw[List.set_append_right _ _ oM,l1,Nat.sub_self,show 8 - j=(8 - (j+1))+1 by omega,List.replicate_succ,List.set_cons_zero,List.take_add_one,h,Option.toList_some,List.append_assoc]
 rfl
theorem Ya7 {l:List Sl} {j:Nat} {x:Sl} (h:l[j]? = some x):(upS l (j+1))[j]? = some x:=by
 have jl:j<l.length:=by
  rcases Nat.lt_or_ge j l.length with q|q
  ·exact q
  ·rw[lN q] at h; cases h
 unfold upS
 rw[List.getElem?_append_left (by rw[List.length_take]; omega),List.getElem?_take_of_lt oM]
 exact h
theorem Z3a {l:List Sl} {j:Nat} (jl:j<=l.length):(upS l (j+1)).take j=l.take j:=by
 unfold upS
 rw[List.take_append_of_le_length (by rw[List.length_take]; omega),List.take_take,Nat.min_eq_left oM]
theorem Z7y {l:List Sl} (ll:l.length=8):upS l 8=l:=by
 unfold upS
 rw[List.take_of_length_le oM,Nat.sub_self]
 exact List.append_nil l
section
variable (Hh:Hearts K Tryz.prog)
include Hh
variable {V:Lq} {l:List Sl} {i:Nat} {x:Sl}
theorem Z2p (S:SlV V l) {p P:Nat}:∀ (k j:Nat) (ts:Zv) (h:Hq),j+k=8->h.get p=some (.row 256 [pgL V] false)->p<h.next->h.get P=some (.row 16 [Oo (upS l j)] false)->P<h.next->p≠P->Zg ts 0=.w (.c (.ptr p 0))->Zg ts 2=.w (.c (.ptr P 0))->Zg ts 5=.w (.c (.int .i64 (j:Int))) ->
  Z9 38 none (q150 [1,0,1,2]) [] ts h fun x ds' ts' h'=>x=.exit 0/\Zg ts' 2=.w (.c (.ptr P 0))/\ds'=[]/\h'.get P=some (.row 16 [Oo l] false)/\P<h'.next/\∀ m,m<h.next->m≠P->h'.get m=h.get m:=by
 have ll:=S.ll
 have vl:=S.vl
 intro k
 induction k with
 | zero =>
  intro j ts h hj hp pl hP Pl ne t0 t2 t5
  obtain rfl:j=8:=oM
  rw[Z7y ll] at hP
  have Jf:=@t5
  iterate 6 (first|refine Goes.Zi Zq ?_|refine Zn Hh Za Zq ?_|apply gS)
  refine⟨rfl,?_,rfl,hP,Pl,fun m _ _=>rfl⟩
  simp (maxSteps:=9^6) +decide (disch:=first|exact dZ|fail) only [go_sem,Zm,Zh,simprocAttr,t2]
 | succ k ih =>
  intro j ts h hj hp pl hP Pl ne t0 t2 t5
  have j8:j<8:=oM
  obtain⟨y,hy⟩:∃ y,l[j]? = some y:=⟨_,lG oM⟩
  have c1:=Z0n Hh hp vl j8
  have c2:=Yaw Hh S hy hp pl
  have w:=Yex y (Zwr ll (show j<=8 by omega)) j8
  rw[Z7z ll hy] at w
  have ul:=Zwr ll (show j+1<=8 by omega)
  obtain⟨r0,r1,_⟩:=Z7b ul (Ya7 hy)
  have ap:y.1≠0->Zeu y.2 0 ((upS l (j+1)).take j) = -1:=fun y0=>by
   rw[Z3a oM]
   refine Zde fun z hz z0=>?_
   obtain⟨i,hi⟩:=List.mem_iff_getElem?.1 hz
   have il:i<j:=by
    rcases Nat.lt_or_ge i j with q|q
    ·exact q
    ·rw[lN (by rw[List.length_take]; omega)] at hi; cases hi
   rw[List.getElem?_take_of_lt il] at hi
   exact S.ap i j z y hi hy il z0 y0
  have cN:=fun {h:Hq} (hP:h.get P=some (.row 16 [Oo (upS l (j+1))] false)) (pl:P<h.next)=>Z1y Hh ul (n:=j) oM y.2 hP pl
  have e1:=Nv (upS l (j+1))
  rw[ul] at e1
  obtain⟨z15,r15⟩:∃ z,read1 16 [Oo (upS l (j+1))] 15=some z:=⟨_,show (Oo (upS l (j+1)))[15]? = some _ from lG oM⟩
  obtain⟨R1,hR1⟩:∃ R,Oo (upS l (j+1))=R:=⟨_,rfl⟩
  obtain⟨R0,hR0⟩:∃ R,Oo (upS l j)=R:=⟨_,rfl⟩
  have hP':=hP
  rw[hR0] at hP' w
  simp only[hR1] at w r0 r1 cN e1 r15
  obtain⟨nv,hnv⟩:=xzE (Zeu y.2 0 ((upS l (j+1)).take j))
  rw[hnv] at ap
  simp only[hnv] at cN
  obtain⟨u,v⟩:=y
  unfold slC at c2 w
  simp only at r0 r1 c2 w ap cN
  have dd:decide ((j:Int)<8)=true:=decide_eq_true oM
  have fin:∀ (ts1:Zv) (hA:Hq),hA.next=h.next->(∀ m,m≠P->hA.get m=h.get m)->hA.get P=some (.row 16 [R1] false)->Zg ts1 0=.w (.c (.ptr p 0))->Zg ts1 2=.w (.c (.ptr P 0))->Zg ts1 5=.w (.c (.int .i64 (((j+1:Nat)):Int)))->Z9 38 none (q150 [1,0,1,2]) [] ts1 hA fun x ds' ts' h'=>x=.exit 0/\Zg ts' 2=.w (.c (.ptr P 0))/\ds'=[]/\h'.get P=some (.row 16 [Oo l] false)/\P<h'.next/\∀ m,m<h.next->m≠P->h'.get m=h.get m:=fun ts1 hA nA kA gA u0 u2 u5=>by
   rw[<-hR1] at gA
   refine (ih (j+1) ts1 hA oM ((kA p ne).trans hp) oM gA oM ne u0 u2 u5).mono ?_
   rintro x1 ds1 ts2 h2 ⟨e1,e2,e3,e4,e5,e6⟩
   exact⟨e1,e2,e3,e4,e5,fun m m1 m2=>(e6 m oM m2).trans (kA m m2)⟩
  by_cases u0:u=0
  ·have ui:((u:Int) != 0)=false:=by subst u0; rfl
   have Jf:=Vr @t0 @t2 @t5 @hp @hP' @w @dd @Nat.zero_add
   iterate 12 (first|refine Goes.Zi Zt ?_|refine Zn Hh Za Zt ?_|apply gS)
   iterate 6 (first|refine Goes.Zi Zt ?_|refine Zn Hh (Zj (Zj Za c1) c2) Zt ?_|apply gS)
   refine Jq fun hA eA=>?_
   have nA:hA.next=h.next:=by rw[eA,H.Zf]
   have kA:∀ m,m≠P->hA.get m=h.get m:=fun m hne=>by rw[eA,Zc hne]
   have gA:hA.get P=some (.row 16 [R1] false):=by rw[eA,Zz]
   clear eA
   have Jf:=Vr Jf @gA @r0 @r1 @ui @Nat.add_zero @tA1 @tA0
   iterate 4 (first|refine Goes.Zi Zt ?_|refine Zn Hh Za Zt ?_|refine Fe Hh Za Zpi ?_|apply gS)
   show Z9 38 none (q150 [1,0,1,2]) _ _ _ _
   refine fin _ hA nA kA gA ?_ ?_ ?_
   ·have Jf:=@t0; exact Zq
   ·have Jf:=@t2; exact Zq
   ·exact Zd
  ·have ui:((u:Int) != 0)=true:=Nn oM
   rw[ap u0] at cN
   have Jf:=Vr @t0 @t2 @t5 @hp @hP' @w @dd @Nat.zero_add
   iterate 12 (first|refine Goes.Zi Zt ?_|refine Zn Hh Za Zt ?_|apply gS)
   iterate 6 (first|refine Goes.Zi Zt ?_|refine Zn Hh (Zj (Zj Za c1) c2) Zt ?_|apply gS)
   refine Jq fun hA eA=>?_
   have nA:hA.next=h.next:=by rw[eA,H.Zf]
   have kA:∀ m,m≠P->hA.get m=h.get m:=fun m hne=>by rw[eA,Zc hne]
   have gA:hA.get P=some (.row 16 [R1] false):=by rw[eA,Zz]
   clear eA
   have c7:=cN gA oM
   have Jf:=J4 Jf @gA @r0 (Yp @r1 @ui @Zx9 @tA1 @tA0 @e1 @r15 @Nat.add_zero @Nat.sub_zero)
   iterate 4 (first|refine Goes.Zi Fh ?_|refine Zn Hh (Zj Za c7) Fh ?_|refine Fe Hh (Zj Za c7) Zz1 ?_|apply gS)
   show Z9 38 none (q150 [1,0,1,2]) _ _ _ _
   refine fin _ hA nA kA gA ?_ ?_ ?_
   ·have Jf:=@t0; exact Zq
   ·have Jf:=@t2; exact Zq
   ·exact Zd
theorem Ztr (S:SlV V l) {h:Hq} {p:Nat} (hp:h.get p=some (.row 256 [pgL V] false)) (pl:p<h.next):Zb 150 [.c (.ptr p 0)] h (.tup [.g (Oo l),.c (.bool true)]) h:=by
 have e1:=Nv l
 rw[S.ll] at e1
 have f1:(Oo l).all C.flat=true:=by
  simp [Oo,slC,C.flat]
 refine Dx (show ((Oo l).all C.flat&&(true&&true))=true by rw[f1]; rfl) ?_
 have lp:=fun P ts h=>Z2p Hh S (p:=p) (P:=P) 8 0 ts h
 obtain⟨R,hR⟩:=xzE (Oo l)
 rw[hR] at e1
 simp only[hR] at lp ⊢
 refine Ym Hh Tryz.f150 ?_
 iterate 6 (first|refine Zn Hh Za Zd ?_|apply gS)
 refine (lp h.next _ _ trivial (by rw[Yf oM]; exact hp) (by rw[H.Ze]; omega) ?_ (by rw[H.Ze]; omega) oM ?_ ?_ ?_).mono ?_
 ·rw[O6]; rfl
 ·exact Zd
 ·exact Zd
 ·exact Zd
 rintro x1 ds1 ts1 h1 ⟨rfl,t2,rfl,g1,n1,k1⟩
 have Jf:=Jh @t2 @g1 @e1
 iterate 3 (first|refine Zn Hh Za Zt ?_|apply gS)
 exact⟨_,_,Zt,rfl,fun m hm=>by rw[Zc oM,k1 m (by rw[H.Ze]; omega) oM,Yf oM]⟩
theorem Z20 (S:SlV V l) (h:Hq):∃ p h',Zb 168 [.g (pgL V)] h (.tup [.c (.slice p 0 8 2),.c (.int .i64 0)]) h'/\h'.get p=some (.row 16 [Oo l] false)/\h.next<=p/\p<h'.next/\∀ m,m<h.next->h'.get m=h.get m:=by
 have e1:=Nv l
 rw[S.ll] at e1
 have vl:(pgL V).length=256:=by rw[J7,S.vl]
 have c1:=fun {h:Hq} {p:Nat} (hp:h.get p=some (.row 256 [pgL V] false)) (pl:p<h.next)=>Ztr Hh S hp pl
 obtain⟨z15,r15⟩:∃ z,read1 16 [Oo l] 15=some z:=⟨_,show (Oo l)[15]? = some _ from lG oM⟩
 obtain⟨R,hR⟩:=xzE (Oo l)
 obtain⟨X,hX⟩:=xzE (pgL V)
 rw[hR] at e1 r15 ⊢
 rw[hX] at vl ⊢
 simp only[hR,hX] at c1
 obtain⟨v,h',cc,p,rfl,q⟩:∃ v h',Zb 168 [.g X] h v h'/\∃ p,v=.tup [.c (.slice p 0 8 2),.c (.int .i64 0)]/\h'.get p=some (.row 16 [R] false)/\h.next<=p/\p<h'.next/\∀ m,m<h.next->h'.get m=h.get m:=by
  refine Ym Hh Tryz.f168 ?_
  have Jf:=L8 @e1 @r15 @vl @Zx9 @tA1 @tA0
  iterate 3 (first|refine Zn Hh Za Fh ?_|apply gS)
  refine Jq fun hA eA=>?_
  have nA:hA.next=h.next+1:=nxQ eA
  have kA:∀ m,m<h.next->hA.get m=h.get m:=kQ eA
  have gA:hA.get h.next=some (.row 256 [X] false):=by rw[eA]; exact Zt
  clear eA
  have c2:=c1 gA oM
  iterate 9 (first|refine Goes.Zi Fh ?_|refine Zn Hh (Zj Za c2) Fh ?_|apply gS)
  refine⟨_,_,Yi,_,rfl,?_,?_,?_,fun m hm=>?_⟩
  ·first|exact Zz .. | (simp (maxSteps:=9^6) +decide (disch:=first|exact dZ|fail) only [go_sem,Zm,Zh,simprocAttr]; done)
  ·omega
  ·simp only[H.Zf,H.Ze]; omega
  ·refine Eq.trans ?_ (kA m hm); exact Yn
 exact⟨p,h',cc,q⟩
end
attribute [go_sem] ty137 de137
theorem rs147:Tryz.f147.results.toList=[.tmp 6]:=rfl
theorem rs76:Tryz.f76.results.toList=[.tmp 4]:=rfl
attribute [go_sem] rs147 rs76
theorem Ydg (s:List UInt8):Jt K 9 (.str s)=true:=kR
section
variable (Hh:Hearts K Tryz.prog)
include Hh
variable {V:Lq} {l:List Sl} {i:Nat} {x:Sl}
theorem Z7i (S:SlV V l) (hi:l[i]? = some sl0) (fi:∀ k y,k<i->l[k]? = some y->y.1≠0) {s:List UInt8} {u:Nat} (my:Rp s=true) (u0:0<u) (u1:u<4294967296) (ha:∀ y∈l,y.1≠0->y.2≠s) {h:Hq} {p:Nat} (hp:h.get p=some (.row 256 [pgL V] false)) (pl:p<h.next) :
  ∃ h',Zb 147 [.c (.ptr p 0),.c (.str s),.c (.int .u32 (u:Int))] h (.w (.c (.int .i64 0))) h'/\h'.get p=some (.row 256 [pgL (Vo V i (u,s))] false)/\h.next<=h'.next/\∀ m,m<h.next->m≠p->h'.get m=h.get m:=by
 have i8:=S.lt hi
 have vl:=S.vl
 have e1:=Nv l
 rw[S.ll] at e1
 have l27:=Zdd my
 have cR:=Ztr Hh S hp pl
 have cM:=fun h=>Zx6 Hh s h
 rw[my] at cM
 have nn:Zeu s 0 (l.take 8) = -1:=by
  rw[List.take_of_length_le (by rw[S.ll]; omega)]
  exact Zde ha
 have ff:Zh4 0 l=(i:Int):=by
  have:=Zsy (j:=0) hi rfl fi
  rw[Nat.zero_add] at this
  exact this
 have cN:=fun {h:Hq} {P:Nat} (hP:h.get P=some (.row 16 [Oo l] false)) (pl:P<h.next)=>Z1y Hh S.ll (n:=8) oM s hP pl
 have cF:=fun {h:Hq} {P:Nat} (hP:h.get P=some (.row 16 [Oo l] false)) (pl:P<h.next)=>Ycd Hh S.ll hP pl
 rw[nn] at cN
 rw[ff] at cF
 have cC:=fun {h:Hq} (hp:h.get p=some (.row 256 [pgL V] false))=>Z0n Hh hp vl i8
 obtain⟨z15,r15⟩:∃ z,read1 16 [Oo l] 15=some z:=⟨_,show (Oo l)[15]? = some _ from lG oM⟩
 obtain⟨R,hR⟩:=xzE (Oo l)
 rw[hR] at e1 r15
 simp only[hR] at cN cF cR
 have ui:((u:Int) == 0)=false:=Db oM
 have gi:decide ((i:Int)<0)=false:=decide_eq_false oM
 have lf:=Z8l
 have sf:=Ydg
 obtain⟨n,hn⟩:=xzE (s.length)
 have wn:Z0 256 [pgL (Jz V (32 * i) u)] (32 * i+4) [.int .u8 (n:Int)]=some [pgL ((Jz V (32 * i) u).set (32 * i+4) n)]:=by
  have:=Z75 (ns:=Jz V (32 * i) u) (i:=32 * i+4) (v:=n) ⟨oM,by rw[Yj,vl]; omega⟩
  rw[Nat.mod_eq_of_lt oM] at this
  exact this
 have vl2:((Jz V (32 * i) u).set (32 * i+4) n).length=256:=by rw[List.length_set,Yj,vl]
 have wb:Jm .u8 (n:Int)=.int .u8 (n:Int):=Zd0 oM
 have av:cpN ((Jz V (32 * i) u).set (32 * i+4) n) (32 * i+5) (s.map UInt8.toNat)=Vo V i (u,s):=by unfold Vo; rw[<-hn]
 have s27:32 - 5=27:=rfl
 have cS:=fun {h:Hq} {te:TI} (t1:te.size=1) (hb:h.get p=some (.row 256 [pgL ((Jz V (32 * i) u).set (32 * i+4) n)] false))=>Z5o (f:=32 * i+5) (l:=27) (s:=s) t1 hb vl2 oM oM oM
 rw[hn] at cS
 simp only[av] at cS
 have p4l:=Yj V (32 * i) u
 rw[vl] at p4l
 obtain⟨X4,hX4⟩:∃ X,Jz V (32 * i) u=X:=⟨_,rfl⟩
 rw[hX4] at wn vl2 p4l
 simp only[hX4] at cS
 have r255:=Zra (ns:=X4) (i:=255) ⟨oM,oM⟩
 obtain⟨X5,hX5⟩:∃ X,X4.set (32 * i+4) n=X:=⟨_,rfl⟩
 rw[hX5] at wn vl2
 simp only[hX5] at cS
 obtain⟨X6,hX6⟩:∃ X,Vo V i (u,s)=X:=⟨_,rfl⟩
 rw[hX6]
 simp only[hX6] at cS
 refine Ow ?_
 refine Ym Hh Tryz.f147 ?_
 have Jf:=L8 @e1 @r15 @ui @gi @lf (Yp @hp @vl @hX4 @hn @Zx9 @tA1 @tA0 @Nat.add_zero @Nat.zero_add)
 iterate 8 (first|refine Goes.Zi Le ?_|refine Zn Hh Za Le ?_|apply gS)
 iterate 8 (first|refine Goes.Zi Le ?_|refine Zn Hh (Zj Za cR) Le ?_|apply gS)
 refine Jq fun hA eA=>?_
 have nA:hA.next=h.next+1:=nxQ eA
 have kA:∀ m,m<h.next->hA.get m=h.get m:=kQ eA
 have gA:hA.get h.next=some (.row 16 [R] false):=by rw[eA]; exact Zt
 clear eA
 have pA:=(kA p pl).trans hp
 have c6:=cN gA oM
 have c8:=cF gA oM
 have c11:=cC pA
 have Jf:=Jh Jf @gA @pA
 iterate 4 (first|refine Goes.Zi Le ?_|refine Zn Hh (Y3 (Zj Za c6) cM) Le ?_|apply gS)
 iterate 7 (first|refine Goes.Zi Le ?_|refine Zn Hh (Zj Za c8) Le ?_|apply gS)
 iterate 2 (first|refine Zn Hh (Zj Za c11) Le ?_|apply gS)
 iterate 2 (first|refine Zn Hh (EY Za (Zfh Hh)) Le ?_|apply gS)
 refine Jq fun hB eB=>?_
 have nB:hB.next=h.next+1:=by rw[eB]; simp only[H.Zf,nA]
 have kB:∀ m,m<h.next->m≠p->hB.get m=h.get m:=fun m hm hne=>by rw[eB,Zc hne]; exact kA m hm
 have gB:hB.get p=some (.row 256 [pgL X4] false):=by rw[eB,Zz]
 clear eB
 have Jf:=J4 Jf @gB @wn @wb
 iterate 2 (first|refine Zn Hh Za Le ?_|apply gS)
 refine Jq fun hC eC=>?_
 have nC:hC.next=h.next+1:=by rw[eC]; simp only[H.Zf,nB]
 have kC:∀ m,m<h.next->m≠p->hC.get m=h.get m:=fun m hm hne=>by rw[eC,Zc hne]; exact kB m hm hne
 have gC:hC.get p=some (.row 256 [pgL X5] false):=by rw[eC,Zz]
 clear eC
 have cP:=fun {te:TI} (t1:te.size=1)=>cS t1 gC
 iterate 4 (first|(apply gO fits Hh Za; · simp (maxSteps:=9^6) +decide (disch:=first|exact dZ|fail) only [go_sem,Zh,simprocAttr,e1,r15,ui,gi,lf,hp,vl,hX4,hn,Zx9,tA1,tA0,Nat.add_zero,Nat.zero_add,gA,pA,gB,wn,wb,gC,cP,sf,s27,Zdg,Zr,Jl,Uj,Bf,bound,Dy,reaches]<;>rfl)|apply gS)
 refine⟨_,_,Zd,rfl,Zz ..,?_,fun m hm hne=>?_⟩
 ·simp only[H.Zf]; omega
 ·rw[Zc hne]; exact kC m hm hne
theorem Z7j (S:SlV V l) (hi:l[i]? = some x) (x0:x.1≠0) {h:Hq} {p:Nat} (hp:h.get p=some (.row 256 [pgL V] false)) (pl:p<h.next) :
  ∃ h',Zb 76 [.c (.ptr p 0),.c (.str x.2)] h (.w (.c (.bool true))) h'/\h'.get p=some (.row 256 [pgL (Ze5 V i)] false)/\h.next<=h'.next/\∀ m,m<h.next->m≠p->h'.get m=h.get m:=by
 have i8:=S.lt hi
 have vl:=S.vl
 have e1:=Nv l
 rw[S.ll] at e1
 have cR:=Ztr Hh S hp pl
 have nn:Zeu x.2 0 (l.take 8)=(i:Int):=by
  rw[List.take_of_length_le (by rw[S.ll]; omega)]
  have:=Ztb (s:=x.2) (j:=0) hi x0 rfl fun k y hk hy y0=>S.ap k i y x hy hi hk y0 x0
  rw[Nat.zero_add] at this
  exact this
 have cN:=fun {h:Hq} {P:Nat} (hP:h.get P=some (.row 16 [Oo l] false)) (pl:P<h.next)=>Z1y Hh S.ll (n:=8) oM x.2 hP pl
 rw[nn] at cN
 have cC:=fun {h:Hq} (hp:h.get p=some (.row 256 [pgL V] false))=>Z0n Hh hp vl i8
 obtain⟨z15,r15⟩:∃ z,read1 16 [Oo l] 15=some z:=⟨_,show (Oo l)[15]? = some _ from lG oM⟩
 obtain⟨R,hR⟩:=xzE (Oo l)
 rw[hR] at e1 r15
 simp only[hR] at cN cR
 obtain⟨s,hs⟩:=xzE (x.2)
 rw[hs]
 simp only[hs] at cN
 have gi:decide ((i:Int)<0)=false:=decide_eq_false oM
 have cS:=fun {h:Hq} {te:TI} (t1:te.zero=.c (.int .u8 0)) (hb:h.get p=some (.row 256 [pgL V] false))=>Z5k (f:=32 * i) (k:=32) t1 hb vl oM oM
 have rv:cpN V (32 * i) (List.replicate 32 0)=Ze5 V i:=rfl
 simp only[rv] at cS
 obtain⟨X6,hX6⟩:∃ X,Ze5 V i=X:=⟨_,rfl⟩
 rw[hX6]
 simp only[hX6] at cS
 refine Ow ?_
 refine Ym Hh Tryz.f76 ?_
 have Jf:=Ng @e1 @r15 @gi @hp @Zx9 @tA1 @tA0
 iterate 8 (first|refine Goes.Zi Fh ?_|refine Zn Hh Za Fh ?_|apply gS)
 iterate 7 (first|refine Goes.Zi Fh ?_|refine Zn Hh (Zj Za cR) Fh ?_|apply gS)
 refine Jq fun hA eA=>?_
 have nA:hA.next=h.next+1:=nxQ eA
 have kA:∀ m,m<h.next->hA.get m=h.get m:=kQ eA
 have gA:hA.get h.next=some (.row 16 [R] false):=by rw[eA]; exact Zt
 clear eA
 have pA:=(kA p pl).trans hp
 have c6:=cN gA oM
 have c9:=cC pA
 have cP:=cS (te:=ti5) rfl pA
 have Jf:=J4 Jf @gA @pA @cP
 iterate 7 (first|refine Goes.Zi Fh ?_|refine Zn Hh (Zj Za c6) Fh ?_|apply gS)
 iterate 4 (first|refine Zn Hh (Zj Za c9) Fh ?_|apply gS)
 refine⟨_,_,Zd,rfl,Zz ..,?_,fun m hm hne=>?_⟩
 ·simp only[H.Zf]; omega
 ·rw[Zc hne]; exact kA m hm
end
def SlB (b:Nat) (h:Hq) (c:C) (l:Lq):Prop:=SlI h c l/\∀ p o n z,c=.slice p o n z->b<=p/\p<h.next
theorem SlB.mono {b b':Nat} {h:Hq} {c:C} {l:Lq} (s:SlB b h c l) (le:b'<=b):SlB b' h c l:=⟨s.1,fun p o n z e=>⟨Nat.le_trans le (s.2 p o n z e).1,(s.2 p o n z e).2⟩⟩
theorem SlB.keep {b:Nat} {h h':Hq} {c:C} {l:Lq} (s:SlB b h c l) (nx:h.next<=h'.next) (k:∀ p,b<=p->p<h.next->h'.get p=h.get p):SlB b h' c l :=
 ⟨s.1.keep fun p o n z e=>k p (s.2 p o n z e).1 (s.2 p o n z e).2,fun p o n z e=>by
  have:=s.2 p o n z e
  omega⟩
theorem Yci {b:Nat} {h:Hq} {c:C} {l:Lq} (s:SlB b h c l) (bh:b<=h.next) (hl:l.length<=4000) (x:Nat):∃ c' h',O3 (h.new (.row 1 [[.int .i64 (x:Int)]] false)) (some ti3) c (.slice h.next 0 1 1)=some (.w (.c c'),h')/\SlB b h' c' (l++[x])/\h.next<=h'.next/\∀ p,p<h.next->(∀ o k z,c≠.slice p o k z)->h'.get p=h.get p:=by
 obtain⟨s,sb⟩:=s
 rcases s with ⟨rfl,rfl⟩|⟨p,p1,rfl,pp⟩
 ·refine⟨_,_,Z9u _,⟨.inr ⟨h.next+1,by simp,rfl,?_⟩,fun p o n z e=>?_⟩,?_,fun p hp _=>?_⟩
  ·rw[Oe (by simp only[H.Ze]<;>omega)]; rfl
  ·cases e; simp only[H.Ze]; omega
  ·simp only[H.Ze]; omega
  ·rw[Yf (by simp only[H.Ze]; omega),Yf oM]
 ·have sb':=sb p 0 _ _ rfl
  have ap:=Yck (h:=h) (L:=rwI l) [.int .i64 (x:Int)] pp sb'.2 (by rw[Zg1]; exact hl)
  rw[Zg1] at ap
  refine⟨_,_,ap,⟨.inr ⟨h.next+1,by simp,by rw[List.length_append]; rfl,?_⟩,fun p o n z e=>?_⟩,?_,fun p' hp ne=>?_⟩
  ·rw[<-Z2x,Oe (by simp only[H.Ze,H.Yv]<;>omega)]
  ·cases e; simp only[H.Ze,H.Yv]; omega
  ·simp only[H.Ze,H.Yv]; omega
  ·have:p'≠p:=fun e=>ne _ _ _ (by rw[e])
   rw[Yf (by simp only[H.Ze,H.Yv]; omega),Zh7 this,Yf oM]
theorem Z82 {n:Nat} {rd:Option Nat} {cd:Go.Code} {ds:Lq} {ts:Zv} {h:Hq} {Q:X->Lq->Zv->Hq->Prop} (g:∀ ts',ts'=ts->Z9 n rd cd ds ts' h Q):Z9 n rd cd ds ts h Q:=g ts rfl
theorem Zx7 {nt l dd:Nat} {ps:Lq} {ts tz:Zv} {A B:Go.Code} (ne:B≠A) {us:List W} {h:Hq} {J:Zv->Hq->Prop} {Q:Hq->Prop} (z:Oh nt ps us ts=some tz)
  (hl:h.get l=some (.loop ts nt ps A B .ready none dd))
  (hA:Z9 nt (some l) A [] tz h fun x ds' ts' h'=>x=.normal/\ds'=[]/\h'.get l=h.get l/\J ts' h')
  (hB:∀ ts' h',J ts' h'->Z9 nt (some l) B [] ts' (h'.put l (.loop ts nt ps A B .busy none dd)) fun x _ _ h2=>x=.normal/\h2.get l=some (.loop ts nt ps A B .busy none dd)/\Q h2) :
  ∃ E h2,Sound K Tryz.prog E/\J5 E l (some us) h (some (.loop ts nt ps A B .ready none dd))=some (.val (.w (.c (.bool true))) (h2.put l (.loop ts nt ps A B .ready none dd)))/\Q h2:=by
 obtain⟨xa,ds1,ts1,h1,kA,rfl,rfl,gl,j⟩:=hA
 obtain⟨xb,ds2,ts2,h2,kB,rfl,g2,q⟩:=hB _ _ j
 have Sd:=Dq (Dq Za kB) kA
 obtain⟨E,h3,Sd2,r,rfl⟩:∃ E h3,Sound K Tryz.prog E/\J5 E l (some us) h (h.get l)=some (.val (.w (.c (.bool true))) h3)/\h3=h2.put l (.loop ts nt ps A B .ready none dd) :=
  ⟨_,_,Sd,Mj hl z (Ex ..) (gl.trans hl) (Qm (fun e=>ne (Task.code.inj e).1) |>.trans (Ex ..)) g2,rfl⟩
 rw[hl] at r
 exact⟨_,_,Sd2,r,q⟩
end
end Go.Proofs.YtmanipmhebgdbaaGreatDoor
