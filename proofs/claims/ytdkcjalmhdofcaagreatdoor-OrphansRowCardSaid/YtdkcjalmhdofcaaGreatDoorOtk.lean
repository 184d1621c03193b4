/- OrphansRow: files are taken, one behind the other. -/
import Derived.Test.YtdkcjalmhdofcaaGreatDoorObg
import Derived.Test.YtdkcjalmhdofcaaGreatDoorIth
import Derived.Test.YtdkcjalmhdofcaaGreatDoorOrr
import Derived.KernelRfl
set_option linter.unusedSimpArgs false
set_option linter.unusedVariables false
set_option linter.unusedSectionVars false
set_option maxRecDepth 100000
set_option maxHeartbeats 4000000
namespace Go.Proofs.YtdkcjalmhdofcaaGreatDoor
open Go.Ev
def g0 (t:Nat):Nat→Bool:=fun j=>decide (j<t) || decide (8≤j)
theorem Z0h:V4 0=Eo 0:=by kernel_rfl
theorem Z3q:V4 43=Zgb (g0 1):=by kernel_rfl
theorem Z17:Des V4 2 24 8 [(20,7,1),(20,8,0)]:=⟨by kernel_rfl,by kernel_rfl,rfl⟩
theorem Z14:∀ i:Nat,2≤i→i≤8→gI 2 24 8 40 V4 (i:Int)=(ino0,0)
 | 0,h,_=>by omega
 | 1,h,_=>by omega
 | 2,_,_=>by kernel_rfl
 | 3,_,_=>by kernel_rfl
 | 4,_,_=>by kernel_rfl
 | 5,_,_=>by kernel_rfl
 | 6,_,_=>by kernel_rfl
 | 7,_,_=>by kernel_rfl
 | 8,_,_=>by kernel_rfl
 | n+9,_,h=>by omega
structure TS (V:Nat→List Nat) (m:Nat):Prop where
 sup:V 0=Eo 0
 bm:V 43=Zgb (g0 (m+1))
 des:Des V 2 24 8 [(20,7 - m,1),(20,8,0)]
 new:∀ i:Nat,2≤i→i≤m+1→gI 2 24 8 40 V (i:Int)=(R8 0,0)
 old:∀ i:Nat,m+2≤i→i≤8→gI 2 24 8 40 V (i:Int)=(ino0,0)
theorem TS.init:TS V4 0:=⟨Z0h,Z3q,Z17,fun i h1 h2=>by omega,Z14⟩
theorem TS.os {V:Nat→List Nat} {m:Nat} (o:TS V m) (hm:m≤7):OS V [] m:=⟨List.nodup_nil,fun x h=>by simp at h,hm,o.sup,fun i a b=>o.new i a b⟩
theorem Zw0 {D:List Bc} (Dl:D.length=2) (Dm:D.all (Zf3 20 8)=true):goodD (Zco D) 2 24 8=true∧Gp (Zco D) 2 0=D:=by
 obtain⟨_,h1,h2⟩:=Zr4 fine4 Dl Dm
 unfold Zq9 at h1 h2
 rw[Om] at h1 h2
 rw[Np] at h1
 rw[La] at h2
 exact⟨h1,h2⟩
def S0:List Nat:=[0,1,43,44,45]
theorem mine4 {z:Nat} (h:z∈S0):Mine S0 [] z:=⟨h,by simp⟩
theorem Zqg:∀ {m:Nat},m<7→([(20,7 - m - 1,1),(20,8,0)]:List Bc).all (Zf3 20 8)=true
 | 0,_=>rfl
 | 1,_=>rfl
 | 2,_=>rfl
 | 3,_=>rfl
 | 4,_=>rfl
 | 5,_=>rfl
 | 6,_=>rfl
 | n+7,h=>by omega
theorem TS.grp {V:Nat→List Nat} {m:Nat} (o:TS V m) (hm:m<7):GrpH 2 24 8 40 S0 [] V [(20,7 - m,1),(20,8,0)] 1 (g0 (m+1)) 0 (m+1) 20 (7 - m) 1 0 ino0:=by
 have b:=Zru (i:=m+2) (by omega) (by omega)
 rw[show m+2 - 1=m+1 by omega] at b
 refine⟨by omega,fun i hi=>?_,?_,by omega,.inl rfl,o.bm,o.des,?_,rfl,rfl,by omega,rfl,by omega,by omega,by omega,Zqg hm,?_,mine4 (by decide),mine4 (by decide)⟩
 ·unfold g0; rw[decide_eq_true hi]; rfl
 ·unfold g0; rw[decide_eq_false (by omega),decide_eq_false (by omega)]; rfl
 ·rw[show 0 * 8+(m+1)+1=m+2 by omega]; exact o.old _ (by omega) (by omega)
 ·rw[show 0 * 8+(m+1)=m+1 by omega]
  rcases b with b|b<;>rw[b]<;>exact mine4 (by decide)
theorem TS.step {V:Nat→List Nat} {m:Nat} (o:TS V m) (hm:m<7) (sl:(V (Y6 24 8 40 (m+1))).length=256):TS (Zh0 24 8 40 V [(20,7 - m,1),(20,8,0)] 1 (g0 (m+1)) 0 (m+1) 20 (7 - m) 1 0) (m+1):=by
 have b:=Zru (i:=m+2) (by omega) (by omega)
 rw[show m+2 - 1=m+1 by omega] at b
 unfold Zh0
 rw[show 0 * 8+(m+1)=m+1 by omega]
 show TS (Gi (Gi (Gi V 43 (Zgb (Xn (g0 (m+1)) (m+1)))) 1 (Zco [(20,7 - m - 1,1),(20,8,0)])) (Y6 24 8 40 (m+1)) (Bh (V (Y6 24 8 40 (m+1))) (Dx 8 (m+1)) 1 1 1 0 [0,0,0,0,0,0,0,0,0,0,0] 0)) (m+1)
 obtain⟨W,hW⟩:∃ W,Gi (Gi V 43 (Zgb (Xn (g0 (m+1)) (m+1)))) 1 (Zco [(20,7 - m - 1,1),(20,8,0)])=W:=⟨_,rfl⟩
 have F:=Yc fine4
 have wb:W (Y6 24 8 40 (m+1))=V (Y6 24 8 40 (m+1)):=by rw[←hW,Gq (by omega),Gq (by omega)]
 have wg:∀ i:Int,gI 2 24 8 40 W i=gI 2 24 8 40 V i:=fun i=>by rw[←hW,Ziy (Zeg F (.inl (by omega))),Ziy (Zeg F (.inr ⟨0,.inl (by omega)⟩))]
 rw[hW,←wb]
 have wl:=sl
 rw[←wb] at wl
 have gd:=Zw0 (D:=[(20,7 - m - 1,1),(20,8,0)]) rfl (Zqg hm)
 refine⟨?_,?_,?_,fun i h1 h2=>?_,fun i h1 h2=>?_⟩
 ·rw[Gq (by omega),←hW,Gq (by omega),Gq (by omega)]; exact o.sup
 ·rw[Gq (by omega),←hW,Gq (by omega),Fu]
  congr 1
  funext j
  unfold Xn g0
  rw[Bool.eq_iff_iff]
  simp only[Bool.or_eq_true,decide_eq_true_eq]
  omega
 ·have v1:∀ x,Gi W (Y6 24 8 40 (m+1)) x 1=Zco [(20,7 - m - 1,1),(20,8,0)]:=fun x=>by rw[Gq (by omega),←hW,Fu]
  rw[show 7 - (m+1)=7 - m - 1 by omega]
  exact⟨by rw[v1]; exact gd.1,by rw[v1]; exact gd.2,rfl⟩
 ·by_cases e:i=m+2
  ·subst e
   exact Zp5 (j:=m+1) (by omega) wl (by omega) (by omega) (by omega) (by omega) Zd1 (by omega) (Z07 0)
  ·obtain⟨k,rfl⟩:∃ k,i=k+1:=⟨i - 1,by omega⟩
   rw[Zjp F wl (by omega) rfl,wg]
   exact o.new _ h1 (by omega)
 ·obtain⟨k,rfl⟩:∃ k,i=k+1:=⟨i - 1,by omega⟩
  rw[Zjp F wl (by omega) rfl,wg]
  exact o.old _ (by omega) h2
section
variable (Hh:Hearts K Tryz.prog)
include Hh
theorem takeN {n q m:Nat} {cr md:Int} {V:Nat→List Nat} {h:Go.Ev.H} (M:HE n q 2 24 8 40 cr md S0 [] V h) (o:TS V m) (hm:m<7):∃ h' V',Zg K Tryz.prog 7 [.c (.ptr (n+13) 0),.c (.int .u8 1),.c (.int .i64 1)] h (.tup [.c (.int .i64 ((m+2:Nat):Int)),.c (.int .i64 0)]) h'∧HE n q 2 24 8 40 cr md S0 [] V' h'∧TS V' (m+1)∧Kp n q h h':=by
 obtain⟨h',c,M',nn,kk⟩:=Zyv Hh fine4 M (near:=1) (k:=0) rfl (o.grp hm)
 rw[show 0 * 8+(m+1)+1=m+2 by omega] at c
 have sl:=HE.Zy9 Hh M (i:=m+2) (by omega) (by omega)
 exact⟨h',_,c,M',o.step hm sl,nn,kk⟩
end
end Go.Proofs.YtdkcjalmhdofcaaGreatDoor
