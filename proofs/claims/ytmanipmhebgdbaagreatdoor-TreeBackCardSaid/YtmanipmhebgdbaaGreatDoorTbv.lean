/- names.Split of TreeBack's paths, run by the kernel. -/
import Derived.Test.YtmanipmhebgdbaaGreatDoorTbs
set_option maxRecDepth 100000
set_option linter.unusedSimpArgs false
set_option linter.unusedVariables false
set_option linter.unusedSectionVars false
namespace Go.Proofs.YtmanipmhebgdbaaGreatDoor
open Go.Ev
theorem spqc0:chk (Y1 121 []) (fun k=>[121 :: nmQ k]) 0=true:=kR
theorem spqc1:chk (Y1 121 []) (fun k=>[121 :: nmQ k]) 1=true:=kR
theorem spqc2:chk (Y1 121 []) (fun k=>[121 :: nmQ k]) 2=true:=kR
theorem spqc3:chk (Y1 121 []) (fun k=>[121 :: nmQ k]) 3=true:=kR
theorem spqc4:chk (Y1 121 []) (fun k=>[121 :: nmQ k]) 4=true:=kR
theorem spqc5:chk (Y1 121 []) (fun k=>[121 :: nmQ k]) 5=true:=kR
theorem spqc6:chk (Y1 121 []) (fun k=>[121 :: nmQ k]) 6=true:=kR
theorem spqc7:chk (Y1 121 []) (fun k=>[121 :: nmQ k]) 7=true:=kR
theorem spqc8:chk (Y1 121 []) (fun k=>[121 :: nmQ k]) 8=true:=kR
theorem spqc9:chk (Y1 121 []) (fun k=>[121 :: nmQ k]) 9=true:=kR
theorem spqc10:chk (Y1 121 []) (fun k=>[121 :: nmQ k]) 10=true:=kR
theorem spqc11:chk (Y1 121 []) (fun k=>[121 :: nmQ k]) 11=true:=kR
theorem spqc12:chk (Y1 121 []) (fun k=>[121 :: nmQ k]) 12=true:=kR
theorem spqd0:chk (Y1 121 [47,122]) (fun k=>[121 :: nmQ k,[122]]) 0=true:=kR
theorem spqd1:chk (Y1 121 [47,122]) (fun k=>[121 :: nmQ k,[122]]) 1=true:=kR
theorem spqd2:chk (Y1 121 [47,122]) (fun k=>[121 :: nmQ k,[122]]) 2=true:=kR
theorem spqd3:chk (Y1 121 [47,122]) (fun k=>[121 :: nmQ k,[122]]) 3=true:=kR
theorem spqd4:chk (Y1 121 [47,122]) (fun k=>[121 :: nmQ k,[122]]) 4=true:=kR
theorem spqd5:chk (Y1 121 [47,122]) (fun k=>[121 :: nmQ k,[122]]) 5=true:=kR
theorem spqd6:chk (Y1 121 [47,122]) (fun k=>[121 :: nmQ k,[122]]) 6=true:=kR
theorem spqd7:chk (Y1 121 [47,122]) (fun k=>[121 :: nmQ k,[122]]) 7=true:=kR
theorem spqd8:chk (Y1 121 [47,122]) (fun k=>[121 :: nmQ k,[122]]) 8=true:=kR
theorem spqd9:chk (Y1 121 [47,122]) (fun k=>[121 :: nmQ k,[122]]) 9=true:=kR
theorem spqd10:chk (Y1 121 [47,122]) (fun k=>[121 :: nmQ k,[122]]) 10=true:=kR
theorem spqd11:chk (Y1 121 [47,122]) (fun k=>[121 :: nmQ k,[122]]) 11=true:=kR
theorem spqd12:chk (Y1 121 [47,122]) (fun k=>[121 :: nmQ k,[122]]) 12=true:=kR
section
variable (Hh:Hearts K Tryz.prog)
include Hh
theorem Yes {k:Nat} (h:k<676):Splits (Y1 121 [] k) [121 :: nmQ k]:=Splits.all Hh (p:=Y1 121 []) (A:=fun k=>[121 :: nmQ k]) (fun _=>Nat.succ_pos _) (lt13 spqc0 spqc1 spqc2 spqc3 spqc4 spqc5 spqc6 spqc7 spqc8 spqc9 spqc10 spqc11 spqc12) h
theorem Yet {k:Nat} (h:k<676):Splits (Y1 121 [47,122] k) [121 :: nmQ k,[122]]:=Splits.all Hh (p:=Y1 121 [47,122]) (A:=fun k=>[121 :: nmQ k,[122]]) (fun _=>Nat.succ_pos _) (lt13 spqd0 spqd1 spqd2 spqd3 spqd4 spqd5 spqd6 spqd7 spqd8 spqd9 spqd10 spqd11 spqd12) h
end
end Go.Proofs.YtmanipmhebgdbaaGreatDoor
