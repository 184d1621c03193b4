/- bits.Set, on the evaluator's level: a block as 2048 bits. -/
import Derived.Test.YtdkcjalmhdofcaaGreatDoorTy
import Derived.Test.YtdkcjalmhdofcaaGreatDoorEvC
set_option linter.unusedSimpArgs false
set_option linter.unusedVariables false
set_option linter.unusedSectionVars false
set_option maxRecDepth 100000
namespace Go.Proofs.YtdkcjalmhdofcaaGreatDoor
open Go.Ev
theorem ty3:K.types.get 3=some ti3:=by kernel_rfl
theorem sz3:ti3.size=1:=by rfl
theorem ag3:ti3.agg=false:=by rfl
theorem de3:ti3.desc=(.int .i64):=by rfl
theorem ze3:ti3.zero=(.c (.int .i64 0)):=by rfl
theorem by3:ti3.bytes=8:=by rfl
theorem ke3 (k:IntKind) (n:Int):Bn K 20 3 (.c (.int k n))=true:=by kernel_rfl
theorem ty4:K.types.get 4=some ti4:=by kernel_rfl
theorem sz4:ti4.size=1:=by rfl
theorem ag4:ti4.agg=false:=by rfl
theorem de4:ti4.desc=.bool:=by rfl
theorem ze4:ti4.zero=(.c (.bool false)):=by rfl
theorem by4:ti4.bytes=1:=by rfl
theorem ty5:K.types.get 5=some ti5:=by kernel_rfl
theorem sz5:ti5.size=1:=by rfl
theorem ag5:ti5.agg=false:=by rfl
theorem de5:ti5.desc=(.int .u8):=by rfl
theorem ze5:ti5.zero=(.c (.int .u8 0)):=by rfl
theorem by5:ti5.bytes=1:=by rfl
theorem ke5 (k:IntKind) (n:Int):Bn K 20 5 (.c (.int k n))=true:=by kernel_rfl
theorem ty60:K.types.get 60=some ti60:=by kernel_rfl
theorem sz60:ti60.size=256:=by rfl
theorem ag60:ti60.agg=true:=by rfl
theorem de60:ti60.desc=(.array 256 5):=by rfl
theorem ze60:ti60.zero=(.g ((List.replicate 256 (.int .u8 0)))):=by rfl
theorem by60:ti60.bytes=256:=by rfl
theorem eq60 (a b:List C):eqT K 20 60 (.g a) (.g b)=(bif true&&Nat.beq a.length 256&&Nat.beq b.length 256 then Yp a b else none):=by kernel_rfl
theorem ty103:K.types.get 103=some ti103:=by kernel_rfl
theorem sz103:ti103.size=1:=by rfl
theorem ag103:ti103.agg=false:=by rfl
theorem de103:ti103.desc=(.pointer 60):=by rfl
theorem ze103:ti103.zero=(.c (.pnil)):=by rfl
theorem by103:ti103.bytes=8:=by rfl
attribute [go_sem] ty3 sz3 ag3 de3 ze3 by3 ke3 ty4 sz4 ag4 de4 ze4 by4 ty5 sz5 ag5 de5 ze5 by5 ke5 ty60 sz60 ag60 de60 ze60 by60 eq60 ty103 sz103 ag103 de103 ze103 by103
theorem rs87:Tryz.f87.results.toList=[.tmp 2]:=rfl
theorem rs86:Tryz.f86.results.toList=[.tmp 2]:=rfl
theorem rs35:Tryz.f35.results.toList=[.tmp 4]:=rfl
attribute [go_sem] rs87 rs86 rs35
def b8 (b0 b1 b2 b3 b4 b5 b6 b7:Bool):Nat:=b0.toNat+2 * b1.toNat+4 * b2.toNat+8 * b3.toNat+16 * b4.toNat+32 * b5.toNat+64 * b6.toNat+128 * b7.toNat
theorem Z3p:∀ b0 b1 b2 b3 b4 b5 b6 b7:Bool,b8 b0 b1 b2 b3 b4 b5 b6 b7<256:=by decide +kernel
theorem land8:∀ b0 b1 b2 b3 b4 b5 b6 b7:Bool,∀ j:Fin 8,Nat.land (b8 b0 b1 b2 b3 b4 b5 b6 b7) (2 ^ j.1)=if [b0,b1,b2,b3,b4,b5,b6,b7].getD j.1 false=true then 2 ^ j.1 else 0:=by decide +kernel
theorem lor8:∀ b0 b1 b2 b3 b4 b5 b6 b7:Bool,∀ j:Fin 8,Nat.lor (b8 b0 b1 b2 b3 b4 b5 b6 b7) (2 ^ j.1)=b8 (b0 || decide (j.1=0)) (b1 || decide (j.1=1)) (b2 || decide (j.1=2)) (b3 || decide (j.1=3)) (b4 || decide (j.1=4)) (b5 || decide (j.1=5)) (b6 || decide (j.1=6)) (b7 || decide (j.1=7)):=by decide +kernel
def byB (g:Nat→Bool) (t:Nat):Nat:=b8 (g (8 * t)) (g (8 * t+1)) (g (8 * t+2)) (g (8 * t+3)) (g (8 * t+4)) (g (8 * t+5)) (g (8 * t+6)) (g (8 * t+7))
def Oo (g:Nat→Bool):List C:=(List.range 256).map fun t=>C.int .u8 ((byB g t:Nat):Int)
def Xn (g:Nat→Bool) (i:Nat):Nat→Bool:=fun j=>g j || decide (j=i)
theorem Vr (g:Nat→Bool):(Oo g).length=256:=by simp [Oo]
theorem Zbn (g:Nat→Bool) (t:Nat) (h:t<256):(Oo g)[t]? = some (C.int .u8 ((byB g t:Nat):Int)):=by simp [Oo,h]
theorem sel8 (g:Nat→Bool) (i:Nat):[g (8 * (i / 8)),g (8 * (i / 8)+1),g (8 * (i / 8)+2),g (8 * (i / 8)+3),g (8 * (i / 8)+4),g (8 * (i / 8)+5),g (8 * (i / 8)+6),g (8 * (i / 8)+7)].getD (i % 8) false=g i:=by
 have e:=Nat.div_add_mod i 8
 obtain⟨t,ht⟩:∃ t,i / 8=t:=⟨_,rfl⟩
 rw[ht] at e ⊢
 have hj:i % 8=0∨i % 8=1∨i % 8=2∨i % 8=3∨i % 8=4∨i % 8=5∨i % 8=6∨i % 8=7:=by omega
 rcases hj with h|h|h|h|h|h|h|h<;>rw[h] at e ⊢ <;> rw[←e]<;>rfl
theorem Zew (g:Nat→Bool) (i:Nat):Nat.land (byB g (i / 8)) (2 ^ (i % 8))=if g i=true then 2 ^ (i % 8) else 0:=by
 have:=land8 (g (8 * (i / 8))) (g (8 * (i / 8)+1)) (g (8 * (i / 8)+2)) (g (8 * (i / 8)+3)) (g (8 * (i / 8)+4)) (g (8 * (i / 8)+5)) (g (8 * (i / 8)+6)) (g (8 * (i / 8)+7)) ⟨i % 8,by omega⟩
 simp only[sel8] at this
 exact this
theorem Zzg (g:Nat→Bool) (i:Nat):Nat.lor (byB g (i / 8)) (2 ^ (i % 8))=byB (Xn g i) (i / 8):=by
 have:=lor8 (g (8 * (i / 8))) (g (8 * (i / 8)+1)) (g (8 * (i / 8)+2)) (g (8 * (i / 8)+3)) (g (8 * (i / 8)+4)) (g (8 * (i / 8)+5)) (g (8 * (i / 8)+6)) (g (8 * (i / 8)+7)) ⟨i % 8,by omega⟩
 refine this.trans ?_
 have e:=Nat.div_add_mod i 8
 unfold byB Xn
 have q:∀ k,k<8→decide (i % 8=k)=decide (8 * (i / 8)+k=i):=fun k hk=>by
  rw[decide_eq_decide]
  omega
 have q0:=q 0 (by omega)
 rw[Nat.add_zero] at q0
 simp only[q0,q 1 (by omega),q 2 (by omega),q 3 (by omega),q 4 (by omega),q 5 (by omega),q 6 (by omega),q 7 (by omega)]
theorem Zrk (g:Nat→Bool) (i t:Nat) (h:t≠i / 8):byB (Xn g i) t=byB g t:=by
 unfold byB Xn
 have q:∀ k,k<8→decide (8 * t+k=i)=false:=fun k hk=>decide_eq_false (by omega)
 have q0:=q 0 (by omega)
 rw[Nat.add_zero] at q0
 simp only[q0,q 1 (by omega),q 2 (by omega),q 3 (by omega),q 4 (by omega),q 5 (by omega),q 6 (by omega),q 7 (by omega),Bool.or_false]
theorem Zrn (g:Nat→Bool) (i:Nat) (hi:i<2048):(Oo g).set (i / 8) (.int .u8 ((Nat.lor (byB g (i / 8)) (2 ^ (i % 8)):Nat):Int))=Oo (Xn g i):=by
 refine List.ext_getElem (by simp [Oo]) fun t h1 h2=>?_
 rw[List.getElem_set]
 simp only[Oo,List.getElem_map,List.getElem_range]
 by_cases e:i / 8=t
 ·rw[if_pos e,Zzg,e]
 ·rw[if_neg e,Zrk _ _ _ (fun x=>e x.symm)]
theorem R4 (g:Nat→Bool) (t:Nat):byB g t<256:=Z3p ..
theorem Vs (i:Nat):2 ^ (i % 8)<256:=Nat.lt_of_lt_of_le (Nat.pow_lt_pow_right (by omega) (show i % 8<8 by omega)) (by decide)
theorem lor256 {a b:Nat} (ha:a<256) (hb:b<256):Nat.lor a b<256:=Nat.or_lt_two_pow (n:=8) ha hb
theorem land256 {a b:Nat} (ha:a<256):Nat.land a b<256:=Nat.lt_of_le_of_lt Nat.and_le_left ha
section
variable (Hh:Hearts K Tryz.prog)
include Hh
theorem isOk (h:Go.Ev.H) (i:Nat) (hi:i<2048):Zg K Tryz.prog 87 [.c (.int .i64 i)] h (.w (.c (.bool true))) h:=by
 refine Zg.goes fits Hh (by kernel_rfl) (by kernel_rfl) (by kernel_rfl) (show Tryz.f87.body=some _ from rfl) rfl ?_
 iterate 5 (first|apply Goes.seq|apply Goes.ret|(apply Goes.ops2 fits Hh Zb; · simp (maxSteps:=9^6) +decide (disch:=first|omega|(simp only[lens]<;>omega)|decide) only [go_sem,Zd,Za,simprocAttr]<;>rfl))
 simp (maxSteps:=9^6) +decide (disch:=first|omega|(simp only[lens]<;>omega)|decide) only [go_sem,Zd,Za,simprocAttr]<;>rfl
theorem Zn3 (h:Go.Ev.H) (i:Nat):Zg K Tryz.prog 86 [.c (.int .i64 i)] h (.w (.c (.int .u8 ((2 ^ (i % 8):Nat):Int)))) h:=by
 have r1:F6 .i64 (i:Int) 8=some (.int .i64 ((i % 8:Nat):Int)):=Bd (b:=8) (by omega)
 have s1:Vd .u8 1 ((i % 8:Nat):Int)=some (.int .u8 ((2 ^ (i % 8):Nat):Int)):=by
  have h8:=Vs i
  unfold Vd
  rw[decide_eq_false (by omega),cond_false]
  have e:min ((i % 8:Nat):Int).toNat IntKind.u8.bits=i % 8:=by
   show min ((i % 8:Nat):Int).toNat 8=i % 8
   omega
  rw[e,Int.one_mul,Zcr ⟨Int.pow_nonneg (by omega),by exact_mod_cast h8⟩]
  congr 2
 refine Zg.goes fits Hh (by kernel_rfl) (by kernel_rfl) (by kernel_rfl) (show Tryz.f86.body=some _ from rfl) rfl ?_
 iterate 5 (first|apply Goes.seq|apply Goes.ret|(apply Goes.ops2 fits Hh Zb; · simp (maxSteps:=9^6) +decide (disch:=first|omega|(simp only[lens]<;>omega)|decide) only [go_sem,Zd,Za,simprocAttr,r1,s1]<;>rfl))
 simp (maxSteps:=9^6) +decide (disch:=first|omega|(simp only[lens]<;>omega)|decide) only [go_sem,Zd,Za,simprocAttr,r1,s1]<;>rfl
theorem Z21 (h:Go.Ev.H) (b i:Nat) (g:Nat→Bool) (hi:i<2048) (hg:g i=false) (hb:h.get b=some (.row 256 [Oo g] false)):Zg K Tryz.prog 35 [.c (.ptr b 0),.c (.int .i64 i)] h (.w (.c (.bool true))) (h.put b (.row 256 [Oo (Xn g i)] false)):=by
 have c1:=isOk Hh h i hi
 have c2:=Zn3 Hh h i
 have q1:Fe .i64 (i:Int) 8=some (.int .i64 ((i / 8:Nat):Int)):=Ej (b:=8) (by omega) (by omega)
 have rd:read1 256 [Oo g] (i / 8)=some (.int .u8 ((byB g (i / 8):Nat):Int)):=by
  unfold read1
  rw[Nat.div_eq_of_lt (by omega),Nat.mod_eq_of_lt (by omega),List.getElem?_cons_zero]
  exact Zbn g _ (by omega)
 have wr:Z4 256 [Oo g] (i / 8) [.int .u8 ((Nat.lor (byB g (i / 8)) (2 ^ (i % 8)):Nat):Int)]=some [Oo (Xn g i)]:=by
  simp only[Z4]
  rw[Nat.div_eq_of_lt (by omega),Nat.mod_eq_of_lt (by omega),List.getElem?_cons_zero]
  simp only[Vr]
  rw[Zei (by omega),cond_true,Zrn g i hi]
  rfl
 have l1:Gb .u8 Nat.land ((byB g (i / 8):Nat):Int) ((2 ^ (i % 8):Nat):Int)=.int .u8 ((0:Nat):Int):=by
  rw[Zp7 (R4 _ _) (Vs _) (land256 (R4 _ _)),Zew,hg]
  rfl
 have l2:Gb .u8 Nat.lor ((byB g (i / 8):Nat):Int) ((2 ^ (i % 8):Nat):Int)=.int .u8 ((Nat.lor (byB g (i / 8)) (2 ^ (i % 8)):Nat):Int):=Zp7 (R4 _ _) (Vs _) (lor256 (R4 _ _) (Vs _))
 refine Zg.goes fits Hh (by kernel_rfl) (by kernel_rfl) (by kernel_rfl) (show Tryz.f35.body=some _ from rfl) rfl ?_
 iterate 4 (first|apply Goes.seq|(apply Goes.ops2 fits Hh Zb; · simp (maxSteps:=9^6) +decide (disch:=first|omega|(simp only[lens]<;>omega)|decide) only [go_sem,Zd,Za,simprocAttr,q1,rd,wr,l1,l2,hb]<;>rfl))
 iterate 4 (first|apply Goes.seq|apply Goes.skip|(apply Goes.Zo; · simp (maxSteps:=9^6) +decide (disch:=first|omega|(simp only[lens]<;>omega)|decide) only [go_sem,Zd,Za,simprocAttr,Zw,q1,rd,wr,l1,l2,hb]<;>rfl)|(apply Goes.drawn2 fits Hh (Zt (Zt Zb c1) c2) (by kernel_rfl); · simp (maxSteps:=9^6) +decide (disch:=first|omega|(simp only[lens]<;>omega)|decide) only [go_sem,Zd,Za,simprocAttr,drG,Zw,q1,rd,wr,l1,l2,hb]<;>rfl))
 iterate 4 (first|apply Goes.seq|apply Goes.ret|(apply Goes.ops2 fits Hh (Zt Zb c2); · simp (maxSteps:=9^6) +decide (disch:=first|omega|(simp only[lens]<;>omega)|decide) only [go_sem,Zd,Za,simprocAttr,Zw,q1,rd,wr,l1,l2,hb]<;>rfl)|(apply Goes.drawn2 fits Hh (Zt Zb c2) (by kernel_rfl); · simp (maxSteps:=9^6) +decide (disch:=first|omega|(simp only[lens]<;>omega)|decide) only [go_sem,Zd,Za,simprocAttr,drG,Zw,q1,rd,wr,l1,l2,hb]<;>rfl))
 simp (maxSteps:=9^6) +decide (disch:=first|omega|(simp only[lens]<;>omega)|decide) only [go_sem,Zd,Za,simprocAttr,q1,rd,wr,l1,l2,hb]<;>rfl
end
end Go.Proofs.YtdkcjalmhdofcaaGreatDoor
