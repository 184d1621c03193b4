/- inode.place and inode.May, of any inode. -/
import Derived.Test.YtdmendgkbikkaaaGreatDoorPag
import Derived.Test.YtdmendgkbikkaaaGreatDoorEvC
import Derived.Test.YtdmendgkbikkaaaGreatDoorWhat3
set_option linter.unusedSimpArgs false
set_option linter.unusedVariables false
set_option linter.unusedSectionVars false
set_option maxRecDepth 100000
set_option maxHeartbeats 4000000
namespace Go.Proofs.YtdmendgkbikkaaaGreatDoor
open Go.Ev
def Zq9 (l s:Int):Bool:=decide (0≤l)&&decide (l≤1000)&&decide (0≤s)&&decide (s≤16777216)
def Z51 (l s p0 p1 p2 p3 p4 p5 p6 p7 p8 p9 p10 nx:Int):Bool:=l == 0&&(s == 0&&((p0 == 0&&(p1 == 0&&(p2 == 0&&(p3 == 0&&(p4 == 0&&(p5 == 0&&(p6 == 0&&(p7 == 0&&(p8 == 0&&(p9 == 0&&(p10 == 0&&true)))))))))))&&(nx == 0&&true)))
def Z6l (k l s p0 p1 p2 p3 p4 p5 p6 p7 p8 p9 p10 nx:Int):Bool :=
 bif decide (k=0) then Z51 l s p0 p1 p2 p3 p4 p5 p6 p7 p8 p9 p10 nx
 else bif decide (k=2) then decide (l=1)&&decide (s % 256=0)&&decide (nx=0)&&Zq9 l s
 else bif decide (k=1) then Zq9 l s else false
noncomputable def Zx3:Kn1:=fun args h=>match args with
 | [.c (.int .i64 z)]=>some (.w (.c (.bool (decide (z=0∨z=64∨z=128∨z=192)))),h)
 | _=>none
noncomputable def Z35:Kn1:=fun args h=>match args with
 | [.g [.int .u8 k,.int .i64 l,.int .u32 g,.int .i64 s,.int .u32 p0,.int .u32 p1,.int .u32 p2,.int .u32 p3,.int .u32 p4,.int .u32 p5,.int .u32 p6,.int .u32 p7,.int .u32 p8,.int .u32 p9,.int .u32 p10,.int .u32 nx]]=>some (.w (.c (.bool (Z6l k l s p0 p1 p2 p3 p4 p5 p6 p7 p8 p9 p10 nx))),h)
 | _=>none
attribute [go_sem] Zx3 Z35
def mB (b:Bool) (r:Option Bool):Option Bool:=match some b with
 | some true=>r
 | r'=>r'
section
variable (Hh:Hearts K Tryz.prog)
include Hh
end
section
variable {ns:List Nat} {p k l g s nx:Nat} {ps:List Nat}
end
end Go.Proofs.YtdmendgkbikkaaaGreatDoor
