/- Types of the program, as the evaluator has them. -/
import Derived.Test.YtgikjeaipmeclaaGreatDoorCfg
import Derived.Test.YtgikjeaipmeclaaGreatDoorFits
import Derived.Test.YtgikjeaipmeclaaGreatDoorEvC
import Derived.KernelRfl
set_option linter.unusedSimpArgs false
set_option linter.unusedVariables false
set_option linter.unusedSectionVars false
set_option maxRecDepth 100000
namespace Go.Proofs.YtgikjeaipmeclaaGreatDoor
open Go.Ev
theorem gl:K.globs=Tree.set .nil 0 0:=by kernel_rfl
theorem Jb:K.types.get 3=some ti3:=by kernel_rfl
theorem U5:ti3.size=1:=rfl
theorem U9:ti3.agg=false:=rfl
theorem Sw:K.types.get 4=some ti4:=by kernel_rfl
theorem Zca:ti4.size=1:=rfl
theorem Zz3:ti4.agg=false:=rfl
theorem Ec:K.types.get 5=some ti5:=by kernel_rfl
theorem Z3v:ti5.desc=.int .u8:=rfl
theorem Mj:ti5.size=1:=rfl
theorem Vb:ti5.agg=false:=rfl
theorem Zzz:K.types.get 34=some ti34:=by kernel_rfl
theorem Z3l:ti34.desc=.int .u32:=rfl
theorem Z4e:ti34.size=1:=rfl
theorem Z3k:ti34.agg=false:=rfl
theorem J4:K.types.get 71=some ti71:=by kernel_rfl
theorem Z1w:ti71.desc=.array 256 5:=rfl
theorem U6:ti71.size=256:=rfl
theorem Ov:ti71.agg=true:=rfl
theorem Mo:K.types.get 123=some ti123:=by kernel_rfl
theorem T9:ti123.desc=.slice 4:=rfl
theorem F3:K.types.get 32=some ti32:=by kernel_rfl
theorem Zjw:ti32.desc=.slice 5:=rfl
theorem Z0p:ti32.size=1:=rfl
theorem Z1q:ti32.agg=false:=rfl
theorem Zl7:K.types.get 366=some ti366:=by kernel_rfl
theorem Zyf:ti366.desc=.slice 32:=rfl
theorem Zzc:K.types.get 381=some ti381:=by kernel_rfl
theorem Z13:ti381.desc=.array 16 34:=rfl
theorem Qr {v:Nat} (h:v<4294967296):Yp .u32 (v:Int)=.int .u32 (v:Int):=by
 unfold Yp IntKind.wrap
 congr 1
 show (if (false&&_)=true then _ else (v:Int) % 4294967296)=_
 simp only[Bool.false_and,Bool.false_eq_true,if_false]
 omega
theorem Zmk {f:Nat→Nat→Nat} {a b:Nat} (ha:a<4294967296) (hb:b<4294967296) (hf:f a b<4294967296):Gz .u32 f (a:Int) (b:Int)=.int .u32 (f a b:Nat):=by
 have e1:((a:Int) % 2 ^ IntKind.bits .u32).toNat=a:=by show ((a:Int) % 4294967296).toNat=a; omega
 have e2:((b:Int) % 2 ^ IntKind.bits .u32).toNat=b:=by show ((b:Int) % 4294967296).toNat=b; omega
 unfold Gz
 rw[e1,e2]
 exact Qr hf
theorem Zbh {a b:Nat} (ha:a<4294967296) (hb:b<4294967296):Gz .u32 Nat.xor (a:Int) (b:Int)=.int .u32 (Nat.xor a b:Nat):=Zmk ha hb (Nat.xor_lt_two_pow (n:=32) ha hb)
theorem Ziw {a b:Nat} (ha:a<4294967296) (hb:b<4294967296):Nat.xor a b<4294967296:=Nat.xor_lt_two_pow (n:=32) ha hb
end Go.Proofs.YtgikjeaipmeclaaGreatDoor
set_option maxRecDepth 100000
set_option maxHeartbeats 4000000
namespace Go.Proofs.YtgikjeaipmeclaaGreatDoor
open Go.Ev
def rwI (l:List Nat):List (List C):=l.map fun (x:Nat)=>[.int .i64 (x:Int)]
theorem Zo2 (l:List Nat):(rwI l).length=l.length:=by simp [rwI]
theorem Z0n {l:List Nat} {k x:Nat} (h:l[k]? = some x):(rwI l)[k]? = some [.int .i64 (x:Int)]:=by simp [rwI,h]
theorem rdI {l:List Nat} {k x:Nat} (h:l[k]? = some x):read1 1 (rwI l) k=some (.int .i64 (x:Int)):=by
 have:=Bv (sz:=1) (i:=k) (j:=0) (by omega) (Z0n h)
 rw[Nat.mul_one,Nat.add_zero] at this
 exact this
def SlI (h:Go.Ev.H) (c:C) (l:List Nat):Prop:=(l=[]∧c=.snil)∨∃ p,0<l.length∧c=.slice p 0 l.length 1∧h.get p=some (.row 1 (rwI l) false)
theorem SlI.keep {h h2:Go.Ev.H} {c:C} {l:List Nat} (s:SlI h c l) (k:∀ p o n z,c=.slice p o n z→h2.get p=h.get p):SlI h2 c l:=by
 rcases s with s|⟨p,h1,rfl,h2⟩
 ·exact .inl s
 ·exact .inr ⟨p,h1,rfl,(k _ _ _ _ rfl).trans h2⟩
theorem Wj (p o l:Nat):Yu K 22 (.c (.slice p o l 1))=true:=by kernel_rfl
theorem Zh7:Yu K 22 (.c .snil)=true:=by kernel_rfl
section
variable (Hh:Hearts K Tryz.prog)
include Hh
end
theorem Z2f:K.types.get 22=some ti22:=by kernel_rfl
theorem Zux (n off len sz:Nat):Yy K 22 (.slice n off len sz)=true:=by unfold Yy; rw[Z2f]; rfl
theorem Z3o {h:Go.Ev.H} {c:C} {l:List Nat} (s:SlI h c l):Yu K 22 (.c c)=true∧∀ h,Ye K h 22 (.c c)=some (.int .i64 (l.length:Nat)):=by
 rcases s with ⟨rfl,rfl⟩|⟨p,_,rfl,_⟩
 ·exact⟨Zh7,fun _=>rfl⟩
 ·exact⟨Wj ..,fun _=>rfl⟩
end Go.Proofs.YtgikjeaipmeclaaGreatDoor
