/- Types of the program, as the evaluator has them. -/
import Derived.Test.YtdkcjalmhdofcaaGreatDoorCfg
import Derived.Test.YtdkcjalmhdofcaaGreatDoorFits
import Derived.Test.YtdkcjalmhdofcaaGreatDoorEvC
import Derived.KernelRfl
set_option linter.unusedSimpArgs false
set_option linter.unusedVariables false
set_option linter.unusedSectionVars false
set_option maxRecDepth 100000
namespace Go.Proofs.YtdkcjalmhdofcaaGreatDoor
open Go.Ev
theorem gl:K.globs=Tree.set .nil 0 0:=by kernel_rfl
theorem Y9:K.types.get 3=some ti3:=by kernel_rfl
theorem U0:ti3.size=1:=rfl
theorem Uy:ti3.agg=false:=rfl
theorem Tq:K.types.get 4=some ti4:=by kernel_rfl
theorem Zcg:ti4.size=1:=rfl
theorem Zzx:ti4.agg=false:=rfl
theorem Du:K.types.get 5=some ti5:=by kernel_rfl
theorem Z2h:ti5.desc=.int .u8:=rfl
theorem Mi:ti5.size=1:=rfl
theorem Sn:ti5.agg=false:=rfl
theorem Zz9:K.types.get 44=some ti44:=by kernel_rfl
theorem Z3n:ti44.desc=.int .u32:=rfl
theorem Z4b:ti44.size=1:=rfl
theorem Z2r:ti44.agg=false:=rfl
theorem J2:K.types.get 60=some ti60:=by kernel_rfl
theorem Z10:ti60.desc=.array 256 5:=rfl
theorem Uv:ti60.size=256:=rfl
theorem Oi:ti60.agg=true:=rfl
theorem L9:K.types.get 123=some ti123:=by kernel_rfl
theorem T9:ti123.desc=.slice 4:=rfl
theorem Fh:K.types.get 192=some ti192:=by kernel_rfl
theorem Zi3:ti192.desc=.slice 5:=rfl
theorem Z05:ti192.size=1:=rfl
theorem Z1t:ti192.agg=false:=rfl
theorem Zj7:K.types.get 351=some ti351:=by kernel_rfl
theorem Zxw:ti351.desc=.slice 192:=rfl
theorem Zzd:K.types.get 352=some ti352:=by kernel_rfl
theorem Z1v:ti352.desc=.array 16 44:=rfl
theorem Zag {v:Nat} (h:v<4294967296):Yn .u32 (v:Int)=.int .u32 (v:Int):=by
 unfold Yn IntKind.wrap
 congr 1
 show (if (false&&_)=true then _ else (v:Int) % 4294967296)=_
 simp only[Bool.false_and,Bool.false_eq_true,if_false]
 omega
theorem Zo8 {f:Nat→Nat→Nat} {a b:Nat} (ha:a<4294967296) (hb:b<4294967296) (hf:f a b<4294967296):Gb .u32 f (a:Int) (b:Int)=.int .u32 (f a b:Nat):=by
 have e1:((a:Int) % 2 ^ IntKind.bits .u32).toNat=a:=by show ((a:Int) % 4294967296).toNat=a; omega
 have e2:((b:Int) % 2 ^ IntKind.bits .u32).toNat=b:=by show ((b:Int) % 4294967296).toNat=b; omega
 unfold Gb
 rw[e1,e2]
 exact Zag hf
theorem Za8 {a b:Nat} (ha:a<4294967296) (hb:b<4294967296):Gb .u32 Nat.xor (a:Int) (b:Int)=.int .u32 (Nat.xor a b:Nat):=Zo8 ha hb (Nat.xor_lt_two_pow (n:=32) ha hb)
theorem Zie {a b:Nat} (ha:a<4294967296) (hb:b<4294967296):Nat.xor a b<4294967296:=Nat.xor_lt_two_pow (n:=32) ha hb
end Go.Proofs.YtdkcjalmhdofcaaGreatDoor
