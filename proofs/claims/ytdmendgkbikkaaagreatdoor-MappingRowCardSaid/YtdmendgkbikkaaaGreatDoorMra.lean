/- A file whose first blocks hang, taken one behind the other: what Ensure makes of the next one. -/
import Derived.Test.YtdmendgkbikkaaaGreatDoorMpd
import Derived.Test.YtdmendgkbikkaaaGreatDoorMpx
set_option linter.unusedSimpArgs false
set_option linter.unusedVariables false
set_option linter.unusedSectionVars false
set_option maxRecDepth 100000
set_option maxHeartbeats 4000000
namespace Go.Proofs.YtdmendgkbikkaaaGreatDoor
open Go.Ev
def inc (i:Nat):Nat:=if i≤8 then i else if i≤72 then i+1 else i+3
def bI (i:Nat):Nat:=if i<8 then i else if i<72 then i+1 else i+3
structure RowF (blk:Nat→Nat) (V:Nat→List Nat) (P:Nat→Nat) (i:Nat):Prop where
 pd:∀ j,j<8→P j=if j<i then blk j else 0
 p8:P 8=if 8<i then blk 8 else 0
 p9:P 9=if 72<i then blk 73 else 0
 p10:P 10=0
 v8:8<i→∀ w,w<64→Y5 (V (blk 8)) (4 * w)=if 8+w<i then blk (9+w) else 0
 v9:72<i→∀ w,w<64→Y5 (V (blk 73)) (4 * w)=if w=0 then blk 74 else 0
 v10:72<i→∀ w,w<64→Y5 (V (blk 74)) (4 * w)=if 72+w<i then blk (75+w) else 0
theorem Za9 {i:Nat} (h:72≤i) (h2:i<136):Uk i=(9,[0,i - 72]):=by
 unfold Uk
 rw[if_neg (by omega),if_neg (by omega),Nat.div_eq_of_lt (by omega),Nat.mod_eq_of_lt (by omega)]
section
variable {blk:Nat→Nat} {V V':Nat→List Nat} {P:Nat→Nat} {i:Nat}
theorem RowF.Z5w (R:RowF blk V P i) (hi:i<8):RowF blk V' (Wl P i (blk i)) (i+1):=by
 obtain⟨pd,p8,p9,p10,v8,v9,v10⟩:=R
 rw[if_neg (by omega)] at p8 p9
 refine⟨fun j hj=>?_,?_,?_,?_,fun w=>by omega,fun w=>by omega,fun w=>by omega⟩
 ·unfold Wl
  split
  ·rename_i e; subst e; rw[if_pos (by omega)]
  ·rename_i e
   rw[pd j hj]
   by_cases w:j<i
   ·rw[if_pos w,if_pos (by omega)]
   ·rw[if_neg w,if_neg (by omega)]
 all_goals (unfold Wl; rw[if_neg (by omega)]; first|(rw[if_neg (by omega)]; assumption)|assumption)
theorem RowF.Z5x (R:RowF blk V P 8) (b0:∀ k,k<128→blk k<4294967296) (hV:V' (blk 8)=Jh zer0 0 (blk 9)):RowF blk V' (Wl P 8 (blk 8)) 9:=by
 obtain⟨pd,p8,p9,p10,v8,v9,v10⟩:=R
 refine⟨fun j hj=>?_,?_,?_,?_,fun _ w hw=>?_,fun w=>by omega,fun w=>by omega⟩
 ·unfold Wl
  rw[if_neg (by omega),pd j hj,if_pos hj,if_pos (by omega)]
 ·unfold Wl; rw[if_pos rfl,if_pos (by omega)]
 ·unfold Wl; rw[if_neg (by omega),p9]; rfl
 ·unfold Wl; rw[if_neg (by omega),p10]
 ·rw[hV]
  by_cases e:w=0
  ·subst e
   rw[if_pos (by omega),Re (by rw[Zbk]; omega) (b0 9 (by omega))]
  ·rw[if_neg (by omega),Zae (by omega),Rf _ (by omega)]
theorem RowF.stepJ (R:RowF blk V P i) (b0:∀ k,k<128→blk k<4294967296) (h9:8<i) (h72:i<72) (vl:(V (blk 8)).length=256) (hV:V' (blk 8)=Jh (V (blk 8)) (4 * (i - 8)) (blk (i+1))):RowF blk V' P (i+1):=by
 obtain⟨pd,p8,p9,p10,v8,v9,v10⟩:=R
 refine⟨fun j hj=>?_,?_,?_,p10,fun _ w hw=>?_,fun w=>by omega,fun w=>by omega⟩
 ·rw[pd j hj,if_pos (by omega),if_pos (by omega)]
 ·rw[p8,if_pos h9,if_pos (by omega)]
 ·rw[p9,if_neg (by omega),if_neg (by omega)]
 ·rw[hV]
  by_cases e:w=i - 8
  ·subst e
   rw[if_pos (by omega),Re (by omega) (b0 _ (by omega)),show 9+(i - 8)=i+1 by omega]
  ·rw[Zae (by omega),v8 h9 w hw]
   by_cases q:8+w<i
   ·rw[if_pos q,if_pos (by omega)]
   ·rw[if_neg q,if_neg (by omega)]
theorem RowF.Z5y (R:RowF blk V P 72) (b0:∀ k,k<128→blk k<4294967296) (h8:V' (blk 8)=V (blk 8)) (h73:V' (blk 73)=Jh zer0 0 (blk 74)) (h74:V' (blk 74)=Jh zer0 0 (blk 75)):RowF blk V' (Wl P 9 (blk 73)) 73:=by
 obtain⟨pd,p8,p9,p10,v8,v9,v10⟩:=R
 refine⟨fun j hj=>?_,?_,?_,?_,fun _ w hw=>?_,fun _ w hw=>?_,fun _ w hw=>?_⟩
 ·unfold Wl
  rw[if_neg (by omega),pd j hj,if_pos (by omega),if_pos (by omega)]
 ·unfold Wl; rw[if_neg (by omega),p8]; rfl
 ·unfold Wl; rw[if_pos rfl,if_pos (by omega)]
 ·unfold Wl; rw[if_neg (by omega),p10]
 ·rw[h8,v8 (by omega) w hw,if_pos (by omega),if_pos (by omega)]
 ·rw[h73]
  by_cases e:w=0
  ·subst e
   rw[if_pos rfl,Re (by rw[Zbk]; omega) (b0 _ (by omega))]
  ·rw[if_neg e,Zae (by omega),Rf _ (by omega)]
 ·rw[h74]
  by_cases e:w=0
  ·subst e
   rw[if_pos (by omega),Re (by rw[Zbk]; omega) (b0 _ (by omega))]
  ·rw[if_neg (by omega),Zae (by omega),Rf _ (by omega)]
theorem RowF.Zc7 (R:RowF blk V P i) (b0:∀ k,k<128→blk k<4294967296) (h73:72<i) (h136:i<120) (vl:(V (blk 74)).length=256) (h8:V' (blk 8)=V (blk 8)) (h3:V' (blk 73)=V (blk 73)) (hV:V' (blk 74)=Jh (V (blk 74)) (4 * (i - 72)) (blk (i+3))):RowF blk V' P (i+1):=by
 obtain⟨pd,p8,p9,p10,v8,v9,v10⟩:=R
 refine⟨fun j hj=>?_,?_,?_,p10,fun _ w hw=>?_,fun _ w hw=>?_,fun _ w hw=>?_⟩
 ·rw[pd j hj,if_pos (by omega),if_pos (by omega)]
 ·rw[p8,if_pos (by omega),if_pos (by omega)]
 ·rw[p9,if_pos h73,if_pos (by omega)]
 ·rw[h8,v8 (by omega) w hw,if_pos (by omega),if_pos (by omega)]
 ·rw[h3,v9 h73 w hw]
 ·rw[hV]
  by_cases e:w=i - 72
  ·subst e
   rw[if_pos (by omega),Re (by omega) (b0 _ (by omega)),show 75+(i - 72)=i+3 by omega]
  ·rw[Zae (by omega),v10 h73 w hw]
   by_cases q:72+w<i
   ·rw[if_pos q,if_pos (by omega)]
   ·rw[if_neg q,if_neg (by omega)]
end
section
variable (Hh:Hearts K Tryz.prog)
include Hh
variable {n q a b c e:Nat} {cr:Cr} [Opn cr] {md:Int} {S:List Nat} {V:Nat→List Nat} {h:Go.Ev.H} {Al:(Nat→List Nat)→Nat→Prop} {bl blk:Nat→Nat} {cap:Nat} {mt nk:Nat→Prop} {m i:Nat}
theorem Z5v {h:Go.Ev.H} {s:C} (sl:SlI h s []):s=.snil:=by
 rcases sl with ⟨_,rfl⟩|⟨p,p1,_⟩
 ·rfl
 ·exact absurd p1 (by simp)
theorem Zrn {h:Go.Ev.H} {s:C} {l:List Nat} (ne:l≠[]) (sl:SlI h s l):∃ p,s=.slice p 0 l.length 1∧h.get p=some (.row 1 (rwI l) false):=by
 rcases sl with ⟨w,_⟩|⟨p,_,e1,e2⟩
 ·exact absurd w ne
 ·exact⟨p,e1,e2⟩
structure RowB (a b c e:Nat) (S:List Nat) (mt nk:Nat→Prop) (blk:Nat→Nat) (i:Nat):Prop where
 inj:∀ k l,blk k=blk l→k=l
 b32:∀ k,k<128→blk k<4096
 bmt:∀ k,k<128→¬ mt (blk k)
 old:∀ k,k<128→Og a b c e (blk k:Nat)=true∧blk k<2+e+a * b∧0<blk k
 nk0:nk 0
 nkI:∀ k,k=8∧8≤i∨(k=73∨k=74)∧72≤i→nk (blk k)
 sI:∀ k,k=8∨k=73∨k=74→blk k∈S
theorem Z3t (f:Y2 a b c e=true) (m0:md≠0) (A:AlcV n q a b c e cr md S Al bl cap mt nk) (mc:m+3≤cap) (e0:bl m=blk (inc i)) (e1:bl (m+1)=blk (inc i+1)) (e2:bl (m+2)=blk (inc i+2)) (B:RowB a b c e S mt nk blk i) (M:HE n q a b c e cr md S [] V h) (al:Al V m) {x:List C} {P:Nat→Nat} (X:InoP x P) (R:RowF blk V P i) (hi:i<100) :
  ∃ h' x' P' V',Zg 18 [.c (.ptr (n+13) 0),.g x,.c (.int .i64 (i:Int)),.c (.int .i64 ((0:Nat):Int))] h (.tup [.g x',.c (.int .i64 (blk (bI i):Nat)),.c (.bool true),.c (.int .i64 0)]) h'∧Kp n q h h'∧InoP x' P'∧HE n q a b c e cr md S [] V' h'∧Al V' (m+(inc (i+1) - inc i))∧RowF blk V' P' (i+1):=by
 obtain⟨inj,b32,bmt,old,nk0,nkI,sI⟩:=B
 have b4:∀ k,k<128→blk k<4294967296:=fun k hk=>by have:=b32 k hk; omega
 have ne:∀ k l,k≠l→blk k≠blk l:=fun k l hkl w=>hkl (inj k l w)
 have hT:∀ z,mt z→z ∉ ([]:List Nat):=fun _ _=>List.not_mem_nil
 have bT:∀ z,z ∉ ([]:List Nat):=fun _=>List.not_mem_nil
 rcases Nat.lt_or_ge i 8 with i8|i8
 ·have ei:inc i=i:=if_pos (by omega)
  have ei1:inc (i+1)=i+1:=if_pos (by omega)
  have eb:bI i=i:=if_pos i8
  rw[ei] at e0
  have z:P (Uk i).1=0:=by rw[X3 i8]; exact (R.pd i i8).trans (if_neg (by omega))
  have EB:=Zwf Hh f m0 A (i:=i) (by rw[X3 i8]; intro w; cases w) M al (by omega) hT (bT _) (by rw[e0]; exact b32 i (by omega)) X (by omega) nk0 z (r1:=blk i) (r2:=true) (R:=fun V'=>Al V' (m+1))
  rw[X3 i8,e0] at EB
  obtain⟨h',cc,kp,V',M',al'⟩:=EB (fun h1 s V1 M1 al1 v1 _ sl sb=>Zam Hh M1 (fun h2 p4 p11 M2 n2 k2 a4 a11 b4 b11=>by
   obtain rfl:=Z5v Hh sl
   exact⟨h2,Zxf Hh _ _,Kp.refl ..,V1,M2,al1⟩))
  refine⟨h',_,_,V',by rw[eb]; exact cc,kp,X.set (by omega) (b4 i (by omega)),M',by rw[ei,ei1,show m+(i+1 - i)=m+1 by omega]; exact al',R.Z5w i8⟩
 rcases Nat.eq_or_lt_of_le i8 with i8'|i8'
 ·obtain rfl:i=8:=i8'.symm
  have z:P (Uk 8).1=0:=by rw[X4 (i:=8) (by omega) (by omega)]; exact R.p8.trans (if_neg (by omega))
  have w8:=X4 (i:=8) (by omega) (by omega)
  have e0':bl m=blk 8:=e0
  have e1':bl (m+1)=blk 9:=e1
  have EB:=Zwf Hh f m0 A (i:=8) (fun _=>by rw[e0']; exact sI 8 (.inl rfl)) M al (by omega) hT (bT _) (by rw[e0']; exact b32 8 (by omega)) X (by omega) nk0 z (r1:=blk 9) (r2:=true) (R:=fun V'=>Al V' (m+2)∧V' (blk 8)=Jh zer0 0 (blk 9))
  rw[w8,e0'] at EB
  obtain⟨h',cc,kp,V',M',al',v8⟩:=EB (fun h1 s V1 M1 al1 v1 z1 sl sb=>Zam Hh M1 (fun h2 p4 p11 M2 n2 k2 a4 a11 b4 b11=>by
   obtain⟨p,rfl,hp⟩:=Zrn Hh (by simp) sl
   have bp:=sb _ _ _ _ rfl
   have zz:=z1 (by simp)
   have SN:=Xb Hh f A (k:=0) (fun w=>by omega) M2 al1 (by omega) hT (bT _) (b0:=blk 8) (w:=0) (old 8 (by omega)).1 (old 8 (by omega)).2.1 (nkI 8 (.inl ⟨rfl,by omega⟩)) (bmt 8 (by omega)) ⟨sI 8 (.inl rfl),bT _⟩ (by rw[e1']; exact ne 8 9 (by omega)) (by omega) (by rw[zz]; exact Rf _ (by omega)) true a4 a11 (L:=[8 - 8]) (o:=0) ((k2 p bp.2).trans hp) rfl b4 b11 ⟨bp.1,by omega⟩ (by omega) (by rw[e1']; exact b32 9 (by omega)) (r1:=blk 9) (r2:=true) (Q:=fun h3=>Kp n q h2 h3∧∃ V',HE n q a b c e cr md S [] V' h3∧Al V' (m+2)∧V' (blk 8)=Jh zer0 0 (blk 9))
   rw[zz,e1'] at SN
   exact SN (fun h3 W M3 al3 v3 _ k3=>⟨h3,Zdw Hh _ _ _ _,Nat.le_refl _,k3,_,M3,al3,Bv ..⟩)))
  exact⟨h',_,_,V',cc,kp,X.set (by omega) (b4 8 (by omega)),M',al',R.Z5x b4 v8⟩
 rcases Nat.lt_or_ge i 72 with i72|i72
 ·have ei:inc i=i+1:=by unfold inc; rw[if_neg (by omega),if_pos (by omega)]
  have ei1:inc (i+1)=i+2:=by unfold inc; rw[if_neg (by omega),if_pos (by omega)]
  have eb:bI i=i+1:=by unfold bI; rw[if_neg (by omega),if_pos i72]
  rw[ei] at e0
  have wi:=X4 (i:=i) (by omega) i72
  have p8:P 8=blk 8:=R.p8.trans (if_pos (by omega))
  have z:P (Uk i).1≠0:=by rw[wi]; show P 8≠0; rw[p8]; have:=(old 8 (by omega)).2.2; omega
  have vl:=M.len (old 8 (by omega)).1 (old 8 (by omega)).2.1
  have EA:=Z12 Hh f m0 M X (i:=i) (by omega) ((0:Nat):Int) z (r1:=blk (i+1)) (r2:=true) (R:=fun V'=>Al V' (m+1)∧V' (blk 8)=Jh (V (blk 8)) (4 * (i - 8)) (blk (i+1)))
  rw[wi] at EA
  have EA':=EA (fun h1 s M1 sl sb=>Zam Hh M1 (fun h2 p4 p11 M2 n2 k2 a4 a11 b4 b11=>by
   obtain⟨p,rfl,hp⟩:=Zrn Hh (by simp) sl
   have bp:=sb _ _ _ _ rfl
   show ∃ h2',Zg 118 [.c (.int .i64 (P 8:Nat)),_,_,_,_] _ _ h2'∧_
   rw[p8]
   have SN:=Xb Hh f A (k:=0) (fun w=>by omega) M2 al (by omega) hT (bT _) (b0:=blk 8) (w:=i - 8) (old 8 (by omega)).1 (old 8 (by omega)).2.1 (nkI 8 (.inl ⟨rfl,by omega⟩)) (bmt 8 (by omega)) ⟨sI 8 (.inl rfl),bT _⟩ (by rw[e0]; exact ne 8 (i+1) (by omega)) (by omega) ((R.v8 (by omega) (i - 8) (by omega)).trans (if_neg (by omega))) false a4 a11 (L:=[i - 8]) (o:=0) ((k2 p bp.2).trans hp) rfl b4 b11 ⟨bp.1,by omega⟩ (by omega) (by rw[e0]; exact b32 (i+1) (by omega)) (r1:=blk (i+1)) (r2:=true) (Q:=fun h3=>Kp n q h2 h3∧∃ V',HE n q a b c e cr md S [] V' h3∧Al V' (m+1)∧V' (blk 8)=Jh (V (blk 8)) (4 * (i - 8)) (blk (i+1)))
   rw[e0] at SN
   exact SN (fun h3 W M3 al3 v3 _ k3=>⟨h3,Zdw Hh _ _ _ _,Nat.le_refl _,k3,_,M3,al3,Bv ..⟩)))
  obtain⟨h',cc,kp,V',M',al',v8⟩:=EA'
  exact⟨h',x,P,V',by rw[eb]; exact cc,kp,X,M',by rw[ei,ei1,show m+(i+2 - (i+1))=m+1 by omega]; exact al',R.stepJ b4 (by omega) i72 vl v8⟩
 rcases Nat.eq_or_lt_of_le i72 with i72'|i72'
 ·obtain rfl:i=72:=i72'.symm
  have w72:=Za9 (i:=72) (by omega) (by omega)
  have z:P (Uk 72).1=0:=by rw[w72]; exact R.p9.trans (if_neg (by omega))
  have e0':bl m=blk 73:=e0
  have e1':bl (m+1)=blk 74:=e1
  have e2':bl (m+2)=blk 75:=e2
  have EB:=Zwf Hh f m0 A (i:=72) (fun _=>by rw[e0']; exact sI 73 (.inr (.inl rfl))) M al (by omega) hT (bT _) (by rw[e0']; exact b32 73 (by omega)) X (by omega) nk0 z (r1:=blk 75) (r2:=true) (R:=fun V'=>Al V' (m+3)∧V' (blk 8)=V (blk 8)∧V' (blk 73)=Jh zer0 0 (blk 74)∧V' (blk 74)=Jh zer0 0 (blk 75))
  rw[w72,e0'] at EB
  obtain⟨h',cc,kp,V',M',al',q8,q73,q74⟩:=EB (fun h1 s V1 M1 al1 v1 z1 sl sb=>Zam Hh M1 (fun h2 p4 p11 M2 n2 k2 a4 a11 b4 b11=>by
   obtain⟨p,rfl,hp⟩:=Zrn Hh (by simp) sl
   have bp:=sb _ _ _ _ rfl
   have zz:=z1 (by simp)
   have hp2:=(k2 p bp.2).trans hp
   have SN:=Xb Hh f A (k:=1) (fun w=>by rw[e1']; exact sI 74 (.inr (.inr rfl))) M2 al1 (by omega) hT (bT _) (b0:=blk 73) (w:=0) (old 73 (by omega)).1 (old 73 (by omega)).2.1 (nkI 73 (.inr ⟨.inl rfl,by omega⟩)) (bmt 73 (by omega)) ⟨sI 73 (.inr (.inl rfl)),bT _⟩ (by rw[e1']; exact ne 73 74 (by omega)) (by omega) (by rw[zz]; exact Rf _ (by omega)) true a4 a11 (L:=[0,72 - 72]) (o:=0) hp2 rfl b4 b11 ⟨bp.1,by omega⟩ (by omega) (by rw[e1']; exact b32 74 (by omega)) (r1:=blk 75) (r2:=true) (Q:=fun h3=>Kp n q h2 h3∧∃ V',HE n q a b c e cr md S [] V' h3∧Al V' (m+3)∧V' (blk 8)=V (blk 8)∧V' (blk 73)=Jh zer0 0 (blk 74)∧V' (blk 74)=Jh zer0 0 (blk 75))
   rw[zz,e1'] at SN
   refine SN (fun h3 W M3 al3 v3 zW k3=>?_)
   have z74:Zci W (blk 73) (Jh zer0 (4 * 0) (blk 74)) (blk 74)=zer0:=by rw[Bf (ne 74 73 (by omega))]; exact zW (by omega)
   have kk:=fun (m:Nat) (b:q+9≤m∧m<h2.next)=>k3.2 m b.2 ⟨⟨by have:=M2.nx; omega,by have:=M2.nx; omega,by have:=M2.nx; omega,by have:=M2.nx; omega,by omega⟩,by omega⟩
   have SM:=Xb Hh f A (k:=0) (fun w=>by omega) M3 al3 (by omega) hT (bT _) (b0:=blk 74) (w:=0) (old 74 (by omega)).1 (old 74 (by omega)).2.1 (nkI 74 (.inr ⟨.inr rfl,by omega⟩)) (bmt 74 (by omega)) ⟨sI 74 (.inr (.inr rfl)),bT _⟩ (by rw[e2']; exact ne 74 75 (by omega)) (by omega) (by rw[z74]; exact Rf _ (by omega)) true ((kk p4 b4).trans a4) ((kk p11 b11).trans a11) (L:=[0,72 - 72]) (o:=1) ((kk p ⟨bp.1,by omega⟩).trans hp2) rfl ⟨b4.1,by have:=k3.1; omega⟩ ⟨b11.1,by have:=k3.1; omega⟩ ⟨bp.1,by have:=k3.1; omega⟩ (by omega) (by rw[e2']; exact b32 75 (by omega)) (r1:=blk 75) (r2:=true) (Q:=fun h4=>h3.next≤h4.next∧Kp n q h2 h4∧∃ V',HE n q a b c e cr md S [] V' h4∧Al V' (m+3)∧V' (blk 8)=V (blk 8)∧V' (blk 73)=Jh zer0 0 (blk 74)∧V' (blk 74)=Jh zer0 0 (blk 75))
   rw[z74,e2'] at SM
   obtain⟨h4,c4,q4⟩:=SM (fun h4 W2 M4 al4 v4 _ k4=>⟨h4,Zdw Hh _ _ _ _,Nat.le_refl _,k4.1,k3.then k4,_,M4,al4,by
    rw[Bf (ne 8 74 (by omega)),v4 _ (bmt 8 (by omega)) (ne 8 75 (by omega)),Bf (ne 8 73 (by omega)),v3 _ (bmt 8 (by omega)) (ne 8 74 (by omega)),v1 _ (bmt 8 (by omega)) (ne 8 73 (by omega))],by
    rw[Bf (ne 73 74 (by omega)),v4 _ (bmt 73 (by omega)) (ne 73 75 (by omega)),Bv],Bv ..⟩)
   exact⟨h4,c4,q4.1,q4.2⟩))
  exact⟨h',_,_,V',cc,kp,X.set (by omega) (b4 73 (by omega)),M',al',R.Z5y b4 q8 q73 q74⟩
 ·have ei:inc i=i+3:=by unfold inc; rw[if_neg (by omega),if_neg (by omega)]
  have ei1:inc (i+1)=i+4:=by unfold inc; rw[if_neg (by omega),if_neg (by omega)]
  have eb:bI i=i+3:=by unfold bI; rw[if_neg (by omega),if_neg (by omega)]
  rw[ei] at e0
  have wi:=Za9 (i:=i) (by omega) (by omega)
  have p9:P 9=blk 73:=R.p9.trans (if_pos (by omega))
  have z:P (Uk i).1≠0:=by rw[wi]; show P 9≠0; rw[p9]; have:=(old 73 (by omega)).2.2; omega
  have vl:=M.len (old 74 (by omega)).1 (old 74 (by omega)).2.1
  have g73:Y5 (V (blk 73)) (4 * 0)=blk 74:=(R.v9 (by omega) 0 (by omega)).trans (if_pos rfl)
  have EA:=Z12 Hh f m0 M X (i:=i) (by omega) ((0:Nat):Int) z (r1:=blk (i+3)) (r2:=true) (R:=fun V'=>Al V' (m+1)∧V' (blk 8)=V (blk 8)∧V' (blk 73)=V (blk 73)∧V' (blk 74)=Jh (V (blk 74)) (4 * (i - 72)) (blk (i+3)))
  rw[wi] at EA
  obtain⟨h',cc,kp,V',M',al',q8,q73,q74⟩:=EA (fun h1 s M1 sl sb=>Zam Hh M1 (fun h2 p4 p11 M2 n2 k2 a4 a11 b4 b11=>by
   obtain⟨p,rfl,hp⟩:=Zrn Hh (by simp) sl
   have bp:=sb _ _ _ _ rfl
   have hp2:=(k2 p bp.2).trans hp
   show ∃ h2',Zg 118 [.c (.int .i64 (P 9:Nat)),_,_,_,_] _ _ h2'∧_
   rw[p9]
   have SH:=Z1b Hh f M2 (b0:=blk 73) (w:=0) (old 73 (by omega)).1 (old 73 (by omega)).2.1 (by omega) (by rw[g73]; have:=(old 74 (by omega)).2.2; omega) false a4 a11 (L:=[0,i - 72]) (o:=0) (k:=1) hp2 rfl b4 b11 ⟨bp.1,by omega⟩ (by omega) (r1:=blk (i+3)) (r2:=true) (Q:=fun h4=>Kp n q h2 h4∧∃ V',HE n q a b c e cr md S [] V' h4∧Al V' (m+1)∧V' (blk 8)=V (blk 8)∧V' (blk 73)=V (blk 73)∧V' (blk 74)=Jh (V (blk 74)) (4 * (i - 72)) (blk (i+3)))
   rw[g73] at SH
   refine SH (fun h3 M3 k3=>?_)
   have kk:=fun (m:Nat) (b:q+9≤m∧m<h2.next)=>k3.2 m b.2 (by have:=M2.nx; omega)
   have SM:=Xb Hh f A (k:=0) (fun w=>by omega) M3 al (by omega) hT (bT _) (b0:=blk 74) (w:=i - 72) (old 74 (by omega)).1 (old 74 (by omega)).2.1 (nkI 74 (.inr ⟨.inr rfl,by omega⟩)) (bmt 74 (by omega)) ⟨sI 74 (.inr (.inr rfl)),bT _⟩ (by rw[e0]; exact ne 74 (i+3) (by omega)) (by omega) ((R.v10 (by omega) (i - 72) (by omega)).trans (if_neg (by omega))) false ((kk p4 b4).trans a4) ((kk p11 b11).trans a11) (L:=[0,i - 72]) (o:=1) ((kk p ⟨bp.1,by omega⟩).trans hp2) rfl ⟨b4.1,by have:=k3.1; omega⟩ ⟨b11.1,by have:=k3.1; omega⟩ ⟨bp.1,by have:=k3.1; omega⟩ (by omega) (by rw[e0]; exact b32 (i+3) (by omega)) (r1:=blk (i+3)) (r2:=true) (Q:=fun h4=>h3.next≤h4.next∧Kp n q h2 h4∧∃ V',HE n q a b c e cr md S [] V' h4∧Al V' (m+1)∧V' (blk 8)=V (blk 8)∧V' (blk 73)=V (blk 73)∧V' (blk 74)=Jh (V (blk 74)) (4 * (i - 72)) (blk (i+3)))
   rw[e0] at SM
   obtain⟨h4,c4,q4⟩:=SM (fun h4 W2 M4 al4 v4 _ k4=>⟨h4,Zdw Hh _ _ _ _,Nat.le_refl _,k4.1,k3.kp.then k4,_,M4,al4,by
    rw[Bf (ne 8 74 (by omega)),v4 _ (bmt 8 (by omega)) (ne 8 (i+3) (by omega))],by
    rw[Bf (ne 73 74 (by omega)),v4 _ (bmt 73 (by omega)) (ne 73 (i+3) (by omega))],Bv ..⟩)
   exact⟨h4,c4,q4.1,q4.2⟩))
  exact⟨h',x,P,V',by rw[eb]; exact cc,kp,X,M',by rw[ei,ei1,show m+(i+4 - (i+3))=m+1 by omega]; exact al',R.Zc7 b4 (by omega) (by omega) vl q8 q73 q74⟩
end
end Go.Proofs.YtdmendgkbikkaaaGreatDoor
set_option maxRecDepth 100000
namespace Go.Proofs.YtdmendgkbikkaaaGreatDoor
open Go.Ev
def Mh (V:Nat→List Nat):Nat→Nat→List Nat
 | 0,b=>if b=0 then [] else [b]
 | k+1,b=>if b=0 then [] else b :: (List.range 64).flatMap fun w=>Mh V k (Y5 (V b) (4 * w))
def Ml (p:Nat):Nat:=p - 7
theorem Dn (V:Nat→List Nat) (k:Nat):Mh V k 0=[]:=by cases k<;>rfl
theorem Zet {α β:Type} {f g:α→List β} {l:List α} (h:∀ x∈l,f x=g x):l.flatMap f=l.flatMap g:=by rw[List.flatMap_def,List.flatMap_def,List.map_congr_left h]
theorem Zdo {g:Nat→Nat} {c:Nat}:∀ m,((List.range m).flatMap fun w=>if w<c then [g w] else [])=(List.range (min m c)).map g
 | 0=>by rw[Nat.zero_min]; rfl
 | m+1=>by
  rw[List.range_succ,List.flatMap_append,Zdo m]
  by_cases h:m<c
  ·rw[show min (m+1) c=m+1 by omega,show min m c=m by omega,List.range_succ,List.map_append]
   simp [h]
  ·rw[show min (m+1) c=c by omega,show min m c=c by omega]
   simp [h]
theorem Zmb (blk:Nat→Nat) (t m:Nat):(List.range t).map blk++(List.range m).map (fun w=>blk (t+w))=(List.range (t+m)).map blk:=by
 rw[List.range_add,List.map_append,List.map_map]
 rfl
section
variable {blk:Nat→Nat} {V:Nat→List Nat} {P:Nat→Nat} {i:Nat}
theorem RowF.all (R:RowF blk V P i) (nz:∀ k,k<128→blk k≠0) (hi:i≤100):((List.range 11).flatMap fun p=>Mh V (Ml p) (P p))=(List.range (inc i)).map blk:=by
 obtain⟨pd,p8,p9,p10,v8,v9,v10⟩:=R
 have d8:((List.range 8).flatMap fun p=>Mh V (Ml p) (P p))=(List.range (min 8 i)).map blk:=by
  rw[←Zdo (g:=blk) (c:=i) 8]
  refine Zet fun p hp=>?_
  have h8:=List.mem_range.1 hp
  rw[show Ml p=0 by unfold Ml; omega,pd p h8]
  by_cases w:p<i
  ·rw[if_pos w,if_pos w]
   exact if_neg (nz p (by omega))
  ·rw[if_neg w,if_neg w]
   rfl
 have e11:List.range 11=List.range 8++[8,9,10]:=rfl
 rw[e11,List.flatMap_append,d8]
 simp only[List.flatMap_cons,List.flatMap_nil,List.append_nil]
 rw[show Ml 8=1 from rfl,show Ml 9=2 from rfl,show Ml 10=3 from rfl,p10,Dn,List.append_nil]
 by_cases h8:8<i
 ·rw[if_pos h8] at p8
  have t8:Mh V 1 (P 8)=blk 8 :: (List.range (min 64 (i - 8))).map (fun w=>blk (9+w)):=by
   rw[p8]
   show (if blk 8=0 then _ else _)=_
   rw[if_neg (nz 8 (by omega)),←Zdo 64]
   congr 1
   refine Zet fun w hw=>?_
   have hw:=List.mem_range.1 hw
   rw[v8 h8 w hw]
   by_cases q:8+w<i
   ·rw[if_pos q,if_pos (by omega)]
    exact if_neg (nz _ (by omega))
   ·rw[if_neg q,if_neg (by omega)]
    rfl
  rw[t8,show min 8 i=8 by omega]
  have m9:(List.range 8).map blk++blk 8 :: (List.range (min 64 (i - 8))).map (fun w=>blk (9+w))=(List.range (9+min 64 (i - 8))).map blk:=by
   have r9:(List.range 9).map blk=(List.range 8).map blk++[blk 8]:=by rw[List.range_succ,List.map_append]; rfl
   rw[←Zmb,r9,List.append_assoc]
   rfl
  by_cases h72:72<i
  ·rw[if_pos h72] at p9
   have t9:Mh V 2 (P 9)=blk 73 :: blk 74 :: (List.range (min 64 (i - 72))).map (fun w=>blk (75+w)):=by
    rw[p9]
    show (if blk 73=0 then _ else _)=_
    rw[if_neg (nz 73 (by omega))]
    congr 1
    have e64:List.range 64=0 :: (List.range 63).map (· + 1):=by rw[show (64:Nat)=63+1 from rfl,List.range_succ_eq_map]
    have g0:Y5 (V (blk 73)) (4 * 0)=blk 74:=(v9 h72 0 (by omega)).trans (if_pos rfl)
    have rest:((List.range 63).map (· + 1)).flatMap (fun w=>Mh V 1 (Y5 (V (blk 73)) (4 * w)))=[]:=by
     rw[List.flatMap_eq_nil_iff]
     intro w hw
     obtain⟨k,hk,rfl⟩:=List.mem_map.1 hw
     have:=List.mem_range.1 hk
     rw[v9 h72 (k+1) (by omega),if_neg (by omega)]
     exact Dn V 1
    rw[e64,List.flatMap_cons,rest,List.append_nil,g0]
    show (if blk 74=0 then _ else _)=_
    rw[if_neg (nz 74 (by omega)),←Zdo 64]
    congr 1
    refine Zet fun w hw=>?_
    have hw:=List.mem_range.1 hw
    rw[v10 h72 w hw]
    by_cases q:72+w<i
    ·rw[if_pos q,if_pos (by omega)]
     exact if_neg (nz _ (by omega))
    ·rw[if_neg q,if_neg (by omega)]
     rfl
   rw[t9,←List.append_assoc,m9,show 9+min 64 (i - 8)=73 by omega]
   have ei:inc i=75+min 64 (i - 72):=by unfold inc; rw[if_neg (by omega),if_neg (by omega)]; omega
   have r75:(List.range 75).map blk=(List.range 73).map blk++[blk 73,blk 74]:=by rw[List.range_succ,List.range_succ,List.map_append,List.map_append,List.append_assoc]; rfl
   rw[ei,←Zmb,r75,List.append_assoc]
   rfl
  ·rw[if_neg h72] at p9
   rw[p9,Dn,List.append_nil,m9]
   have ei:inc i=9+min 64 (i - 8):=by unfold inc; rw[if_neg (by omega),if_pos (by omega)]; omega
   rw[ei]
 ·rw[if_neg h8] at p8
  rw[if_neg (by omega)] at p9
  rw[p8,p9,Dn,Dn,List.append_nil,List.append_nil]
  have ei:inc i=min 8 i:=by unfold inc; rw[if_pos (by omega)]; omega
  rw[ei]
theorem RowF.find (R:RowF blk V P i) (nz:∀ k,k<128→blk k≠0) (hi:i≤100) {j:Nat} (hj:j<110):X9 V P j=if j<i then blk (bI j) else 0:=by
 obtain⟨pd,p8,p9,p10,v8,v9,v10⟩:=R
 unfold X9
 rcases Nat.lt_or_ge j 8 with h|h
 ·rw[X3 h]
  show P j=_
  rw[pd j h,show bI j=j from if_pos h]
 rcases Nat.lt_or_ge j 72 with h2|h2
 ·rw[X4 h h2]
  show (if P 8=0 then 0 else Y5 (V (P 8)) (4 * (j - 8)))=_
  rw[show bI j=j+1 by unfold bI; rw[if_neg (by omega),if_pos h2]]
  by_cases q:8<i
  ·rw[p8,if_pos q,if_neg (nz 8 (by omega)),v8 q _ (by omega)]
   rw[show 8+(j - 8)=j by omega,show 9+(j - 8)=j+1 by omega]
  ·rw[p8,if_neg q,if_pos rfl,if_neg (by omega)]
 ·rw[Za9 h2 (by omega)]
  show (if (if P 9=0 then 0 else Y5 (V (P 9)) (4 * 0))=0 then 0 else Y5 (V (if P 9=0 then 0 else Y5 (V (P 9)) (4 * 0))) (4 * (j - 72)))=_
  rw[show bI j=j+3 by unfold bI; rw[if_neg (by omega),if_neg (by omega)]]
  by_cases q:72<i
  ·rw[p9,if_pos q,if_neg (nz 73 (by omega)),v9 q 0 (by omega),if_pos rfl,if_neg (nz 74 (by omega)),v10 q _ (by omega)]
   rw[show 72+(j - 72)=j by omega,show 75+(j - 72)=j+3 by omega]
  ·rw[p9,if_neg q,if_pos rfl,if_pos rfl,if_neg (by omega)]
end
end Go.Proofs.YtdmendgkbikkaaaGreatDoor
