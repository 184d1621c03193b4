/- Types of the program, as the evaluator has them. -/
import Derived.Test.YtlbbmhgdcdcdnaaGreatDoorCfg
import Derived.Test.YtlbbmhgdcdcdnaaGreatDoorFits
import Derived.Test.YtlbbmhgdcdcdnaaGreatDoorEvC
import Derived.KernelRfl
set_option linter.unusedSimpArgs false
set_option linter.unusedVariables false
set_option linter.unusedSectionVars false
set_option maxRecDepth 100000
namespace Go.Proofs.YtlbbmhgdcdcdnaaGreatDoor
open Go.Ev
theorem gl:K.globs=Tree.set .nil 0 0:=by kernel_rfl
theorem tyInt:K.types.get 3=some ti3:=by kernel_rfl
theorem sInt:ti3.size=1:=rfl
theorem aInt:ti3.agg=false:=rfl
theorem tyByte:K.types.get 5=some ti5:=by kernel_rfl
theorem sByte:ti5.size=1:=rfl
theorem aByte:ti5.agg=false:=rfl
theorem tyU32:K.types.get 40=some ti40:=by kernel_rfl
theorem dU32:ti40.desc=.int .u32:=rfl
theorem sU32:ti40.size=1:=rfl
theorem aU32:ti40.agg=false:=rfl
theorem tyBytes:K.types.get 141=some ti141:=by kernel_rfl
theorem dBytes:ti141.desc=.slice 5:=rfl
theorem sBytes:ti141.size=1:=rfl
theorem aBytes:ti141.agg=false:=rfl
theorem tyPieces:K.types.get 268=some ti268:=by kernel_rfl
theorem dPieces:ti268.desc=.slice 141:=rfl
theorem tySteps:K.types.get 269=some ti269:=by kernel_rfl
theorem dSteps:ti269.desc=.array 16 40:=rfl
theorem wrapU32 {v:Nat} (h:v<4294967296):wrapC .u32 (v:Int)=.int .u32 (v:Int):=by
 unfold wrapC IntKind.wrap
 congr 1
 show (if (false&&_)=true then _ else (v:Int) % 4294967296)=_
 simp only[Bool.false_and,Bool.false_eq_true,if_false]
 omega
theorem bitU32 {f:Nat→Nat→Nat} {a b:Nat} (ha:a<4294967296) (hb:b<4294967296) (hf:f a b<4294967296):opBit .u32 f (a:Int) (b:Int)=.int .u32 (f a b:Nat):=by
 have e1:((a:Int) % 2 ^ IntKind.bits .u32).toNat=a:=by show ((a:Int) % 4294967296).toNat=a; omega
 have e2:((b:Int) % 2 ^ IntKind.bits .u32).toNat=b:=by show ((b:Int) % 4294967296).toNat=b; omega
 unfold opBit
 rw[e1,e2]
 exact wrapU32 hf
theorem xorU32 {a b:Nat} (ha:a<4294967296) (hb:b<4294967296):opBit .u32 Nat.xor (a:Int) (b:Int)=.int .u32 (Nat.xor a b:Nat):=bitU32 ha hb (Nat.xor_lt_two_pow (n:=32) ha hb)
theorem xor_lt {a b:Nat} (ha:a<4294967296) (hb:b<4294967296):Nat.xor a b<4294967296:=Nat.xor_lt_two_pow (n:=32) ha hb
end Go.Proofs.YtlbbmhgdcdcdnaaGreatDoor
set_option maxRecDepth 100000
namespace Go.Proofs.YtlbbmhgdcdcdnaaGreatDoor
open Go.Ev
structure Fine (gr sz ino jr:Nat):Prop where
 gr1:1≤gr
 gr4:gr≤4
 sz1:16≤sz
 sz2:sz≤512
 ino1:4≤ino
 ino2:ino≤64
 ino4:ino % 4=0
 jr1:40≤jr
 jr2:jr≤256
 fit:3+ino / 4≤sz
 all:2+jr+gr * sz≤2048
def geoL (gr sz ino jr:Nat):List C:=[.int .i64 gr,.int .i64 sz,.int .i64 ino,.int .i64 jr]
end Go.Proofs.YtlbbmhgdcdcdnaaGreatDoor
