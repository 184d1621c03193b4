/- names.Split of TreeBack's paths, run by the kernel. -/
import Derived.Test.YtmanipmhebgdbaaGreatDoorTbs
set_option maxRecDepth 100000
set_option linter.unusedSimpArgs false
set_option linter.unusedVariables false
set_option linter.unusedSectionVars false
namespace Go.Proofs.YtmanipmhebgdbaaGreatDoor
open Go.Ev
theorem spqa0:chk (Y1 120 []) (fun k=>[120 :: nmQ k]) 0=true:=kR
theorem spqa1:chk (Y1 120 []) (fun k=>[120 :: nmQ k]) 1=true:=kR
theorem spqa2:chk (Y1 120 []) (fun k=>[120 :: nmQ k]) 2=true:=kR
theorem spqa3:chk (Y1 120 []) (fun k=>[120 :: nmQ k]) 3=true:=kR
theorem spqa4:chk (Y1 120 []) (fun k=>[120 :: nmQ k]) 4=true:=kR
theorem spqa5:chk (Y1 120 []) (fun k=>[120 :: nmQ k]) 5=true:=kR
theorem spqa6:chk (Y1 120 []) (fun k=>[120 :: nmQ k]) 6=true:=kR
theorem spqa7:chk (Y1 120 []) (fun k=>[120 :: nmQ k]) 7=true:=kR
theorem spqa8:chk (Y1 120 []) (fun k=>[120 :: nmQ k]) 8=true:=kR
theorem spqa9:chk (Y1 120 []) (fun k=>[120 :: nmQ k]) 9=true:=kR
theorem spqa10:chk (Y1 120 []) (fun k=>[120 :: nmQ k]) 10=true:=kR
theorem spqa11:chk (Y1 120 []) (fun k=>[120 :: nmQ k]) 11=true:=kR
theorem spqa12:chk (Y1 120 []) (fun k=>[120 :: nmQ k]) 12=true:=kR
theorem spqb0:chk (Y1 120 [47,102]) (fun k=>[120 :: nmQ k,[102]]) 0=true:=kR
theorem spqb1:chk (Y1 120 [47,102]) (fun k=>[120 :: nmQ k,[102]]) 1=true:=kR
theorem spqb2:chk (Y1 120 [47,102]) (fun k=>[120 :: nmQ k,[102]]) 2=true:=kR
theorem spqb3:chk (Y1 120 [47,102]) (fun k=>[120 :: nmQ k,[102]]) 3=true:=kR
theorem spqb4:chk (Y1 120 [47,102]) (fun k=>[120 :: nmQ k,[102]]) 4=true:=kR
theorem spqb5:chk (Y1 120 [47,102]) (fun k=>[120 :: nmQ k,[102]]) 5=true:=kR
theorem spqb6:chk (Y1 120 [47,102]) (fun k=>[120 :: nmQ k,[102]]) 6=true:=kR
theorem spqb7:chk (Y1 120 [47,102]) (fun k=>[120 :: nmQ k,[102]]) 7=true:=kR
theorem spqb8:chk (Y1 120 [47,102]) (fun k=>[120 :: nmQ k,[102]]) 8=true:=kR
theorem spqb9:chk (Y1 120 [47,102]) (fun k=>[120 :: nmQ k,[102]]) 9=true:=kR
theorem spqb10:chk (Y1 120 [47,102]) (fun k=>[120 :: nmQ k,[102]]) 10=true:=kR
theorem spqb11:chk (Y1 120 [47,102]) (fun k=>[120 :: nmQ k,[102]]) 11=true:=kR
theorem spqb12:chk (Y1 120 [47,102]) (fun k=>[120 :: nmQ k,[102]]) 12=true:=kR
section
variable (Hh:Hearts K Tryz.prog)
include Hh
theorem Yeq {k:Nat} (h:k<676):Splits (Y1 120 [] k) [120 :: nmQ k]:=Splits.all Hh (p:=Y1 120 []) (A:=fun k=>[120 :: nmQ k]) (fun _=>Nat.succ_pos _) (lt13 spqa0 spqa1 spqa2 spqa3 spqa4 spqa5 spqa6 spqa7 spqa8 spqa9 spqa10 spqa11 spqa12) h
theorem Yer {k:Nat} (h:k<676):Splits (Y1 120 [47,102] k) [120 :: nmQ k,[102]]:=Splits.all Hh (p:=Y1 120 [47,102]) (A:=fun k=>[120 :: nmQ k,[102]]) (fun _=>Nat.succ_pos _) (lt13 spqb0 spqb1 spqb2 spqb3 spqb4 spqb5 spqb6 spqb7 spqb8 spqb9 spqb10 spqb11 spqb12) h
end
end Go.Proofs.YtmanipmhebgdbaaGreatDoor
