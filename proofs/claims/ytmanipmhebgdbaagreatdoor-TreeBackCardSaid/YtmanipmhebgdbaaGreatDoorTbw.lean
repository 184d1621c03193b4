/- names.Split of TreeBack's paths, run by the kernel. -/
import Derived.Test.YtmanipmhebgdbaaGreatDoorTbs
set_option maxRecDepth 100000
set_option linter.unusedSimpArgs false
set_option linter.unusedVariables false
set_option linter.unusedSectionVars false
namespace Go.Proofs.YtmanipmhebgdbaaGreatDoor
open Go.Ev
theorem spqe0:chk (Y1 121 [47,122,47,102]) (fun k=>[121 :: nmQ k,[122],[102]]) 0=true:=kR
theorem spqe1:chk (Y1 121 [47,122,47,102]) (fun k=>[121 :: nmQ k,[122],[102]]) 1=true:=kR
theorem spqe2:chk (Y1 121 [47,122,47,102]) (fun k=>[121 :: nmQ k,[122],[102]]) 2=true:=kR
theorem spqe3:chk (Y1 121 [47,122,47,102]) (fun k=>[121 :: nmQ k,[122],[102]]) 3=true:=kR
theorem spqe4:chk (Y1 121 [47,122,47,102]) (fun k=>[121 :: nmQ k,[122],[102]]) 4=true:=kR
theorem spqe5:chk (Y1 121 [47,122,47,102]) (fun k=>[121 :: nmQ k,[122],[102]]) 5=true:=kR
theorem spqe6:chk (Y1 121 [47,122,47,102]) (fun k=>[121 :: nmQ k,[122],[102]]) 6=true:=kR
theorem spqe7:chk (Y1 121 [47,122,47,102]) (fun k=>[121 :: nmQ k,[122],[102]]) 7=true:=kR
theorem spqe8:chk (Y1 121 [47,122,47,102]) (fun k=>[121 :: nmQ k,[122],[102]]) 8=true:=kR
theorem spqe9:chk (Y1 121 [47,122,47,102]) (fun k=>[121 :: nmQ k,[122],[102]]) 9=true:=kR
theorem spqe10:chk (Y1 121 [47,122,47,102]) (fun k=>[121 :: nmQ k,[122],[102]]) 10=true:=kR
theorem spqe11:chk (Y1 121 [47,122,47,102]) (fun k=>[121 :: nmQ k,[122],[102]]) 11=true:=kR
theorem spqe12:chk (Y1 121 [47,122,47,102]) (fun k=>[121 :: nmQ k,[122],[102]]) 12=true:=kR
theorem spqf0:chk (Y1 121 [47,122,47,119]) (fun k=>[121 :: nmQ k,[122],[119]]) 0=true:=kR
theorem spqf1:chk (Y1 121 [47,122,47,119]) (fun k=>[121 :: nmQ k,[122],[119]]) 1=true:=kR
theorem spqf2:chk (Y1 121 [47,122,47,119]) (fun k=>[121 :: nmQ k,[122],[119]]) 2=true:=kR
theorem spqf3:chk (Y1 121 [47,122,47,119]) (fun k=>[121 :: nmQ k,[122],[119]]) 3=true:=kR
theorem spqf4:chk (Y1 121 [47,122,47,119]) (fun k=>[121 :: nmQ k,[122],[119]]) 4=true:=kR
theorem spqf5:chk (Y1 121 [47,122,47,119]) (fun k=>[121 :: nmQ k,[122],[119]]) 5=true:=kR
theorem spqf6:chk (Y1 121 [47,122,47,119]) (fun k=>[121 :: nmQ k,[122],[119]]) 6=true:=kR
theorem spqf7:chk (Y1 121 [47,122,47,119]) (fun k=>[121 :: nmQ k,[122],[119]]) 7=true:=kR
theorem spqf8:chk (Y1 121 [47,122,47,119]) (fun k=>[121 :: nmQ k,[122],[119]]) 8=true:=kR
theorem spqf9:chk (Y1 121 [47,122,47,119]) (fun k=>[121 :: nmQ k,[122],[119]]) 9=true:=kR
theorem spqf10:chk (Y1 121 [47,122,47,119]) (fun k=>[121 :: nmQ k,[122],[119]]) 10=true:=kR
theorem spqf11:chk (Y1 121 [47,122,47,119]) (fun k=>[121 :: nmQ k,[122],[119]]) 11=true:=kR
theorem spqf12:chk (Y1 121 [47,122,47,119]) (fun k=>[121 :: nmQ k,[122],[119]]) 12=true:=kR
section
variable (Hh:Hearts K Tryz.prog)
include Hh
theorem Yeu {k:Nat} (h:k<676):Splits (Y1 121 [47,122,47,102] k) [121 :: nmQ k,[122],[102]]:=Splits.all Hh (p:=Y1 121 [47,122,47,102]) (A:=fun k=>[121 :: nmQ k,[122],[102]]) (fun _=>Nat.succ_pos _) (lt13 spqe0 spqe1 spqe2 spqe3 spqe4 spqe5 spqe6 spqe7 spqe8 spqe9 spqe10 spqe11 spqe12) h
theorem Yev {k:Nat} (h:k<676):Splits (Y1 121 [47,122,47,119] k) [121 :: nmQ k,[122],[119]]:=Splits.all Hh (p:=Y1 121 [47,122,47,119]) (A:=fun k=>[121 :: nmQ k,[122],[119]]) (fun _=>Nat.succ_pos _) (lt13 spqf0 spqf1 spqf2 spqf3 spqf4 spqf5 spqf6 spqf7 spqf8 spqf9 spqf10 spqf11 spqf12) h
end
end Go.Proofs.YtmanipmhebgdbaaGreatDoor
