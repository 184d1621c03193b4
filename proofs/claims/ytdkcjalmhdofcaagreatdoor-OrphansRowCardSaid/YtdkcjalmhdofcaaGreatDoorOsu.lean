/- The superblock of a small file system, with an orphan: written and read (by the kernel, at each number). -/
import Derived.Test.YtdkcjalmhdofcaaGreatDoorSpecX
import Derived.Test.YtdkcjalmhdofcaaGreatDoorPag
import Derived.Test.YtdkcjalmhdofcaaGreatDoorEvC
import Derived.KernelRfl
set_option linter.unusedSimpArgs false
set_option linter.unusedVariables false
set_option linter.unusedSectionVars false
set_option maxRecDepth 100000
namespace Go.Proofs.YtdkcjalmhdofcaaGreatDoor
open Go.Ev
noncomputable def x4:Kn:=fun f args h=>bif Nat.beq f 204 then Zxj args h else bif Nat.beq f 94 then Zqh args h else none
def Eo (z:Nat):List Nat:=((fun ns=>Jg ns 252 (Sr ns)) (Jg (Ua (Ua (Ua (Ua (Ua (Ua (Jg (List.replicate 256 0) 0 827216465) 4 1) 6 256) 8 2) 10 24) 12 8) 14 40) 16 z)).map (· % 256)
theorem Zdc (z:Nat):(Eo z).length=256:=by simp only[Eo,List.length_map,Yf,Ym,List.length_replicate]
def Sv (z:Nat):List C:=[.int .i64 2,.int .i64 24,.int .i64 8,.int .i64 40,.int .u32 (z:Int)]
section
variable (Hh:Hearts K Tryz.prog)
include Hh
theorem Z0b:Zd5 K Tryz.prog x4:=by
 intro f args h v h' e
 unfold x4 at e
 cases h2:Nat.beq f 204 with
 | true =>
  rw[h2] at e
  obtain rfl:=Nat.eq_of_beq_eq_true h2
  exact Zx0 Hh e
 | false =>
  rw[h2] at e
  cases h3:Nat.beq f 94 with
  | true =>
   rw[h3] at e
   obtain rfl:=Nat.eq_of_beq_eq_true h3
   exact Zuf Hh e
  | false=>rw[h3] at e; cases e
theorem Fs {z:Nat} (e:Zeo (evX K x4 5000 (.call 99 [.g (pgL (Eo z))] F3))=some (.tup [.g (Sv z),.c (.int .i64 0)])) {h:Go.Ev.H} (hst:h.get 0=some Ul):Zg K Tryz.prog 99 [.g (pgL (Eo z))] h (.tup [.g (Sv z),.c (.int .i64 0)]) h:=by
 obtain⟨h1,e1⟩:=Xk e
 have c0:=(D5 fits Hh (Z0b Hh) 5000).call 99 _ _ _ _ e1
 exact Zg.Zpk gl c0 (by kernel_rfl) (by show ((pgL (Eo z)).all C.flat&&true)=true; rw[Ru]; rfl) rfl h hst
theorem Dh {z:Nat} (e:Zeo (evX K x4 5000 (.call 92 [.g (Sv z)] F3))=some (.tup [.g (pgL (Eo z)),.c (.int .i64 0)])) {h:Go.Ev.H} (hst:h.get 0=some Ul):Zg K Tryz.prog 92 [.g (Sv z)] h (.tup [.g (pgL (Eo z)),.c (.int .i64 0)]) h:=by
 obtain⟨h1,e1⟩:=Xk e
 have c0:=(D5 fits Hh (Z0b Hh) 5000).call 92 _ _ _ _ e1
 exact Zg.Zpk gl c0 (by kernel_rfl) rfl (by show ((pgL (Eo z)).all C.flat&&true)=true; rw[Ru]; rfl) h hst
theorem Ztw {z:Nat} (hz:z<9) {h:Go.Ev.H} (hst:h.get 0=some Ul):Zg K Tryz.prog 99 [.g (pgL (Eo z))] h (.tup [.g (Sv z),.c (.int .i64 0)]) h:=by
 match z,hz with
 | 0,_=>exact Fs Hh (by kernel_rfl) hst
 | 1,_=>exact Fs Hh (by kernel_rfl) hst
 | 2,_=>exact Fs Hh (by kernel_rfl) hst
 | 3,_=>exact Fs Hh (by kernel_rfl) hst
 | 4,_=>exact Fs Hh (by kernel_rfl) hst
 | 5,_=>exact Fs Hh (by kernel_rfl) hst
 | 6,_=>exact Fs Hh (by kernel_rfl) hst
 | 7,_=>exact Fs Hh (by kernel_rfl) hst
 | 8,_=>exact Fs Hh (by kernel_rfl) hst
 | n+9,h=>exact absurd h (by omega)
theorem Zqw {z:Nat} (hz:z<9) {h:Go.Ev.H} (hst:h.get 0=some Ul):Zg K Tryz.prog 92 [.g (Sv z)] h (.tup [.g (pgL (Eo z)),.c (.int .i64 0)]) h:=by
 match z,hz with
 | 0,_=>exact Dh Hh (by kernel_rfl) hst
 | 1,_=>exact Dh Hh (by kernel_rfl) hst
 | 2,_=>exact Dh Hh (by kernel_rfl) hst
 | 3,_=>exact Dh Hh (by kernel_rfl) hst
 | 4,_=>exact Dh Hh (by kernel_rfl) hst
 | 5,_=>exact Dh Hh (by kernel_rfl) hst
 | 6,_=>exact Dh Hh (by kernel_rfl) hst
 | 7,_=>exact Dh Hh (by kernel_rfl) hst
 | 8,_=>exact Dh Hh (by kernel_rfl) hst
 | n+9,h=>exact absurd h (by omega)
end
end Go.Proofs.YtdkcjalmhdofcaaGreatDoor
