/- A file whose first blocks hang, taken one behind the other: what Ensure makes of the next one. -/
import Derived.Test.YteiljiijagmonaaGreatDoorAlh
import Derived.Test.YteiljiijagmonaaGreatDoorHcy
set_option maxRecDepth 100000
set_option maxHeartbeats 4000000
set_option linter.unusedSimpArgs false
set_option linter.unusedVariables false
set_option linter.unusedSectionVars false
namespace Go.Proofs.YteiljiijagmonaaGreatDoor
open Go.Ev
def inc (i:Nat):Nat:=if i<=8 then i else if i<=72 then i+1 else i+3
def bI (i:Nat):Nat:=if i<8 then i else if i<72 then i+1 else i+3
structure RowF (blk:Nat->Nat) (V:Nat->Lq) (P:Nat->Nat) (i:Nat):Prop where
 pd:∀ j,j<8->P j=if j<i then blk j else 0
 p8:P 8=if 8<i then blk 8 else 0
 p9:P 9=if 72<i then blk 73 else 0
 p10:P 10=0
 v8:8<i->∀ w,w<64->Yq (V (blk 8)) (4 * w)=if 8+w<i then blk (9+w) else 0
 v9:72<i->∀ w,w<64->Yq (V (blk 73)) (4 * w)=if w=0 then blk 74 else 0
 v10:72<i->∀ w,w<64->Yq (V (blk 74)) (4 * w)=if 72+w<i then blk (75+w) else 0
theorem Zdn {i:Nat} (h:72<=i) (h2:i<136):Uw i=(9,[0,i - 72]):=by
 unfold Uw
 rw[if_neg oM,if_neg oM,Nat.div_eq_of_lt oM,Nat.mod_eq_of_lt oM]
section
variable {blk:Nat->Nat} {V V':Nat->Lq} {P:Nat->Nat} {i:Nat}
theorem RowF.Yab (R:RowF blk V P i) (hi:i<8):RowF blk V' (Zbg P i (blk i)) (i+1):=by
 obtain⟨pd,p8,p9,p10,v8,v9,v10⟩:=R
 rw[if_neg oM] at p8 p9
 refine⟨fun j hj=>?_,?_,?_,?_,fun w=>by omega,fun w=>by omega,fun w=>by omega⟩
 ·unfold Zbg
  split
  ·rename_i e; subst e; rw[if_pos oM]
  ·rename_i e
   rw[pd j hj]
   by_cases w:j<i
   ·rw[if_pos w,if_pos oM]
   ·rw[if_neg w,if_neg oM]
 all_goals (unfold Zbg; rw[if_neg oM]; first|(rw[if_neg oM]; assumption)|assumption)
theorem RowF.Yac (R:RowF blk V P 8) (b0:∀ k,k<128->blk k<4294967296) (hV:V' (blk 8)=Jd zer0 0 (blk 9)):RowF blk V' (Zbg P 8 (blk 8)) 9:=by
 obtain⟨pd,p8,p9,p10,v8,v9,v10⟩:=R
 refine⟨fun j hj=>?_,?_,?_,?_,fun _ w hw=>?_,fun w=>by omega,fun w=>by omega⟩
 ·unfold Zbg
  rw[if_neg oM,pd j hj,if_pos hj,if_pos oM]
 ·unfold Zbg; rw[if_pos rfl,if_pos oM]
 ·unfold Zbg; rw[if_neg oM,p9]; rfl
 ·unfold Zbg; rw[if_neg oM,p10]
 ·rw[hV]
  by_cases e:w=0
  ·subst e
   rw[if_pos oM,Ny (by rw[Zdz]; omega) (b0 9 oM)]
  ·rw[if_neg oM,Zal oM,Tn _ oM]
theorem RowF.stepJ (R:RowF blk V P i) (b0:∀ k,k<128->blk k<4294967296) (h9:8<i) (h72:i<72) (vl:(V (blk 8)).length=256) (hV:V' (blk 8)=Jd (V (blk 8)) (4 * (i - 8)) (blk (i+1))):RowF blk V' P (i+1):=by
 obtain⟨pd,p8,p9,p10,v8,v9,v10⟩:=R
 refine⟨fun j hj=>?_,?_,?_,p10,fun _ w hw=>?_,fun w=>by omega,fun w=>by omega⟩
 ·rw[pd j hj,if_pos oM,if_pos oM]
 ·rw[p8,if_pos h9,if_pos oM]
 ·rw[p9,if_neg oM,if_neg oM]
 ·rw[hV]
  by_cases e:w=i - 8
  ·subst e
   rw[if_pos oM,Ny oM (b0 _ oM),show 9+(i - 8)=i+1 by omega]
  ·rw[Zal oM,v8 h9 w hw]
   by_cases q:8+w<i
   ·rw[if_pos q,if_pos oM]
   ·rw[if_neg q,if_neg oM]
theorem RowF.Yad (R:RowF blk V P 72) (b0:∀ k,k<128->blk k<4294967296) (h8:V' (blk 8)=V (blk 8)) (h73:V' (blk 73)=Jd zer0 0 (blk 74)) (h74:V' (blk 74)=Jd zer0 0 (blk 75)):RowF blk V' (Zbg P 9 (blk 73)) 73:=by
 obtain⟨pd,p8,p9,p10,v8,v9,v10⟩:=R
 refine⟨fun j hj=>?_,?_,?_,?_,fun _ w hw=>?_,fun _ w hw=>?_,fun _ w hw=>?_⟩
 ·unfold Zbg
  rw[if_neg oM,pd j hj,if_pos oM,if_pos oM]
 ·unfold Zbg; rw[if_neg oM,p8]; rfl
 ·unfold Zbg; rw[if_pos rfl,if_pos oM]
 ·unfold Zbg; rw[if_neg oM,p10]
 ·rw[h8,v8 oM w hw,if_pos oM,if_pos oM]
 ·rw[h73]
  by_cases e:w=0
  ·subst e
   rw[if_pos rfl,Ny (by rw[Zdz]; omega) (b0 _ oM)]
  ·rw[if_neg e,Zal oM,Tn _ oM]
 ·rw[h74]
  by_cases e:w=0
  ·subst e
   rw[if_pos oM,Ny (by rw[Zdz]; omega) (b0 _ oM)]
  ·rw[if_neg oM,Zal oM,Tn _ oM]
theorem RowF.Zff (R:RowF blk V P i) (b0:∀ k,k<128->blk k<4294967296) (h73:72<i) (h136:i<120) (vl:(V (blk 74)).length=256) (h8:V' (blk 8)=V (blk 8)) (h3:V' (blk 73)=V (blk 73)) (hV:V' (blk 74)=Jd (V (blk 74)) (4 * (i - 72)) (blk (i+3))):RowF blk V' P (i+1):=by
 obtain⟨pd,p8,p9,p10,v8,v9,v10⟩:=R
 refine⟨fun j hj=>?_,?_,?_,p10,fun _ w hw=>?_,fun _ w hw=>?_,fun _ w hw=>?_⟩
 ·rw[pd j hj,if_pos oM,if_pos oM]
 ·rw[p8,if_pos oM,if_pos oM]
 ·rw[p9,if_pos h73,if_pos oM]
 ·rw[h8,v8 oM w hw,if_pos oM,if_pos oM]
 ·rw[h3,v9 h73 w hw]
 ·rw[hV]
  by_cases e:w=i - 72
  ·subst e
   rw[if_pos oM,Ny oM (b0 _ oM),show 75+(i - 72)=i+3 by omega]
  ·rw[Zal oM,v10 h73 w hw]
   by_cases q:72+w<i
   ·rw[if_pos q,if_pos oM]
   ·rw[if_neg q,if_neg oM]
end
section
variable (Hh:Hearts K Tryz.prog)
include Hh
variable {n q a b c e:Nat} {cr:Cr} [Opn cr] {md:Int} {S:Lq} {V:Nat->Lq} {h:Hq} {Al:(Nat->Lq)->Nat->Prop} {bl blk:Nat->Nat} {cap:Nat} {mt nk:Nat->Prop} {m i:Nat}
theorem Z99 {h:Hq} {s:C} (sl:SlI h s []):s=.snil:=by
 rcases sl with ⟨_,rfl⟩|⟨p,p1,_⟩
 ·rfl
 ·exact absurd p1 (by simp)
theorem Zu3 {h:Hq} {s:C} {l:Lq} (ne:l≠[]) (sl:SlI h s l):∃ p,s=.slice p 0 l.length 1/\h.get p=some (.row 1 (rwI l) false):=by
 rcases sl with ⟨w,_⟩|⟨p,_,e1,e2⟩
 ·exact absurd w ne
 ·exact⟨p,e1,e2⟩
structure RowB (a b c e:Nat) (S:Lq) (mt nk:Nat->Prop) (blk:Nat->Nat) (i:Nat):Prop where
 inj:∀ k l,blk k=blk l->k=l
 b32:∀ k,k<128->blk k<4096
 bmt:∀ k,k<128->¬ mt (blk k)
 old:∀ k,k<128->Uu a b c e (blk k:Nat)=true/\blk k<2+e+a * b/\0<blk k
 nk0:nk 0
 nkI:∀ k,k=8/\8<=i\/(k=73\/k=74)/\72<=i->nk (blk k)
 sI:∀ k,k=8\/k=73\/k=74->blk k∈S
theorem Z73 (f:Y1 a b c e=true) (m0:md≠0) (A:AlcV n q a b c e cr md S Al bl cap mt nk) (mc:m+3<=cap) (e0:bl m=blk (inc i)) (e1:bl (m+1)=blk (inc i+1)) (e2:bl (m+2)=blk (inc i+2)) (B:RowB a b c e S mt nk blk i) (M:HE n q a b c e cr md S [] V h) (al:Al V m) {x:List C} {P:Nat->Nat} (X:InoP x P) (R:RowF blk V P i) (hi:i<100) :
  ∃ h' x' P' V',Zi 16 [.c (.ptr (n+13) 0),.g x,.c (.int .i64 (i:Int)),.c (.int .i64 ((0:Nat):Int))] h (.tup [.g x',.c (.int .i64 (blk (bI i):Nat)),.c (.bool true),.c (.int .i64 0)]) h'/\Kp n q h h'/\InoP x' P'/\HE n q a b c e cr md S [] V' h'/\Al V' (m+(inc (i+1) - inc i))/\RowF blk V' P' (i+1):=by
 obtain⟨inj,b32,bmt,old,nk0,nkI,sI⟩:=B
 have b4:∀ k,k<128->blk k<4294967296:=fun k hk=>by have:=b32 k hk; omega
 have ne:∀ k l,k≠l->blk k≠blk l:=fun k l hkl w=>hkl (inj k l w)
 have hT:∀ z,mt z->z ∉ ([]:Lq):=fun _ _=>List.not_mem_nil
 have bT:∀ z,z ∉ ([]:Lq):=fun _=>List.not_mem_nil
 rcases Nat.lt_or_ge i 8 with i8|i8
 ·have ei:inc i=i:=if_pos oM
  have ei1:inc (i+1)=i+1:=if_pos oM
  have eb:bI i=i:=if_pos i8
  rw[ei] at e0
  have z:P (Uw i).1=0:=by rw[Zay i8]; exact (R.pd i i8).trans (if_neg oM)
  have EB:=Zzt Hh f m0 A (i:=i) (by rw[Zay i8]; intro w; cases w) M al oM hT (bT _) (by rw[e0]; exact b32 i oM) X oM nk0 z (r1:=blk i) (r2:=true) (R:=fun V'=>Al V' (m+1))
  rw[Zay i8,e0] at EB
  obtain⟨h',cc,kp,V',M',al'⟩:=EB (fun h1 s V1 M1 al1 v1 _ sl sb=>Zc2 Hh M1 (fun h2 p4 p11 M2 n2 k2 a4 a11 b4 b11=>by
   obtain rfl:=Z99 Hh sl
   exact⟨h2,Z0v Hh _ _,Kp.refl ..,V1,M2,al1⟩))
  refine⟨h',_,_,V',by rw[eb]; exact cc,kp,X.set oM (b4 i oM),M',by rw[ei,ei1,show m+(i+1 - i)=m+1 by omega]; exact al',R.Yab i8⟩
 rcases Nat.eq_or_lt_of_le i8 with i8'|i8'
 ·obtain rfl:i=8:=i8'.symm
  have z:P (Uw 8).1=0:=by rw[Zaz (i:=8) oM oM]; exact R.p8.trans (if_neg oM)
  have w8:=Zaz (i:=8) oM oM
  have e0':bl m=blk 8:=e0
  have e1':bl (m+1)=blk 9:=e1
  have EB:=Zzt Hh f m0 A (i:=8) (fun _=>by rw[e0']; exact sI 8 (.inl rfl)) M al oM hT (bT _) (by rw[e0']; exact b32 8 oM) X oM nk0 z (r1:=blk 9) (r2:=true) (R:=fun V'=>Al V' (m+2)/\V' (blk 8)=Jd zer0 0 (blk 9))
  rw[w8,e0'] at EB
  obtain⟨h',cc,kp,V',M',al',v8⟩:=EB (fun h1 s V1 M1 al1 v1 z1 sl sb=>Zc2 Hh M1 (fun h2 p4 p11 M2 n2 k2 a4 a11 b4 b11=>by
   obtain⟨p,rfl,hp⟩:=Zu3 Hh (by simp) sl
   have bp:=sb _ _ _ _ rfl
   have zz:=z1 (by simp)
   have SN:=Q6 Hh f A (k:=0) (fun w=>by omega) M2 al1 oM hT (bT _) (b0:=blk 8) (w:=0) (old 8 oM).1 (old 8 oM).2.1 (nkI 8 (.inl ⟨rfl,oM⟩)) (bmt 8 oM) ⟨sI 8 (.inl rfl),bT _⟩ (by rw[e1']; exact ne 8 9 oM) oM (by rw[zz]; exact Tn _ oM) true a4 a11 (L:=[8 - 8]) (o:=0) ((k2 p bp.2).trans hp) rfl b4 b11 ⟨bp.1,oM⟩ oM (by rw[e1']; exact b32 9 oM) (r1:=blk 9) (r2:=true) (Q:=fun h3=>Kp n q h2 h3/\∃ V',HE n q a b c e cr md S [] V' h3/\Al V' (m+2)/\V' (blk 8)=Jd zer0 0 (blk 9))
   rw[zz,e1'] at SN
   exact SN (fun h3 W M3 al3 v3 _ k3=>⟨h3,Zf6 Hh _ _ _ _,Nat.le_refl _,k3,_,M3,al3,Ov ..⟩)))
  exact⟨h',_,_,V',cc,kp,X.set oM (b4 8 oM),M',al',R.Yac b4 v8⟩
 rcases Nat.lt_or_ge i 72 with i72|i72
 ·have ei:inc i=i+1:=by unfold inc; rw[if_neg oM,if_pos oM]
  have ei1:inc (i+1)=i+2:=by unfold inc; rw[if_neg oM,if_pos oM]
  have eb:bI i=i+1:=by unfold bI; rw[if_neg oM,if_pos i72]
  rw[ei] at e0
  have wi:=Zaz (i:=i) oM i72
  have p8:P 8=blk 8:=R.p8.trans (if_pos oM)
  have z:P (Uw i).1≠0:=by rw[wi]; show P 8≠0; rw[p8]; have:=(old 8 oM).2.2; omega
  have vl:=M.len (old 8 oM).1 (old 8 oM).2.1
  have EA:=Z5s Hh f m0 M X (i:=i) oM ((0:Nat):Int) z (r1:=blk (i+1)) (r2:=true) (R:=fun V'=>Al V' (m+1)/\V' (blk 8)=Jd (V (blk 8)) (4 * (i - 8)) (blk (i+1)))
  rw[wi] at EA
  have EA':=EA (fun h1 s M1 sl sb=>Zc2 Hh M1 (fun h2 p4 p11 M2 n2 k2 a4 a11 b4 b11=>by
   obtain⟨p,rfl,hp⟩:=Zu3 Hh (by simp) sl
   have bp:=sb _ _ _ _ rfl
   show ∃ h2',Zi 116 [.c (.int .i64 (P 8:Nat)),_,_,_,_] _ _ h2'/\_
   rw[p8]
   have SN:=Q6 Hh f A (k:=0) (fun w=>by omega) M2 al oM hT (bT _) (b0:=blk 8) (w:=i - 8) (old 8 oM).1 (old 8 oM).2.1 (nkI 8 (.inl ⟨rfl,oM⟩)) (bmt 8 oM) ⟨sI 8 (.inl rfl),bT _⟩ (by rw[e0]; exact ne 8 (i+1) oM) oM ((R.v8 oM (i - 8) oM).trans (if_neg oM)) false a4 a11 (L:=[i - 8]) (o:=0) ((k2 p bp.2).trans hp) rfl b4 b11 ⟨bp.1,oM⟩ oM (by rw[e0]; exact b32 (i+1) oM) (r1:=blk (i+1)) (r2:=true) (Q:=fun h3=>Kp n q h2 h3/\∃ V',HE n q a b c e cr md S [] V' h3/\Al V' (m+1)/\V' (blk 8)=Jd (V (blk 8)) (4 * (i - 8)) (blk (i+1)))
   rw[e0] at SN
   exact SN (fun h3 W M3 al3 v3 _ k3=>⟨h3,Zf6 Hh _ _ _ _,Nat.le_refl _,k3,_,M3,al3,Ov ..⟩)))
  obtain⟨h',cc,kp,V',M',al',v8⟩:=EA'
  exact⟨h',x,P,V',by rw[eb]; exact cc,kp,X,M',by rw[ei,ei1,show m+(i+2 - (i+1))=m+1 by omega]; exact al',R.stepJ b4 oM i72 vl v8⟩
 rcases Nat.eq_or_lt_of_le i72 with i72'|i72'
 ·obtain rfl:i=72:=i72'.symm
  have w72:=Zdn (i:=72) oM oM
  have z:P (Uw 72).1=0:=by rw[w72]; exact R.p9.trans (if_neg oM)
  have e0':bl m=blk 73:=e0
  have e1':bl (m+1)=blk 74:=e1
  have e2':bl (m+2)=blk 75:=e2
  have EB:=Zzt Hh f m0 A (i:=72) (fun _=>by rw[e0']; exact sI 73 (.inr (.inl rfl))) M al oM hT (bT _) (by rw[e0']; exact b32 73 oM) X oM nk0 z (r1:=blk 75) (r2:=true) (R:=fun V'=>Al V' (m+3)/\V' (blk 8)=V (blk 8)/\V' (blk 73)=Jd zer0 0 (blk 74)/\V' (blk 74)=Jd zer0 0 (blk 75))
  rw[w72,e0'] at EB
  obtain⟨h',cc,kp,V',M',al',q8,q73,q74⟩:=EB (fun h1 s V1 M1 al1 v1 z1 sl sb=>Zc2 Hh M1 (fun h2 p4 p11 M2 n2 k2 a4 a11 b4 b11=>by
   obtain⟨p,rfl,hp⟩:=Zu3 Hh (by simp) sl
   have bp:=sb _ _ _ _ rfl
   have zz:=z1 (by simp)
   have hp2:=(k2 p bp.2).trans hp
   have SN:=Q6 Hh f A (k:=1) (fun w=>by rw[e1']; exact sI 74 (.inr (.inr rfl))) M2 al1 oM hT (bT _) (b0:=blk 73) (w:=0) (old 73 oM).1 (old 73 oM).2.1 (nkI 73 (.inr ⟨.inl rfl,oM⟩)) (bmt 73 oM) ⟨sI 73 (.inr (.inl rfl)),bT _⟩ (by rw[e1']; exact ne 73 74 oM) oM (by rw[zz]; exact Tn _ oM) true a4 a11 (L:=[0,72 - 72]) (o:=0) hp2 rfl b4 b11 ⟨bp.1,oM⟩ oM (by rw[e1']; exact b32 74 oM) (r1:=blk 75) (r2:=true) (Q:=fun h3=>Kp n q h2 h3/\∃ V',HE n q a b c e cr md S [] V' h3/\Al V' (m+3)/\V' (blk 8)=V (blk 8)/\V' (blk 73)=Jd zer0 0 (blk 74)/\V' (blk 74)=Jd zer0 0 (blk 75))
   rw[zz,e1'] at SN
   refine SN (fun h3 W M3 al3 v3 zW k3=>?_)
   have z74:Df W (blk 73) (Jd zer0 (4 * 0) (blk 74)) (blk 74)=zer0:=by rw[Y9 (ne 74 73 oM)]; exact zW oM
   have kk:=fun (m:Nat) (b:q+9<=m/\m<h2.next)=>k3.2 m b.2 ⟨⟨by have:=M2.nx; omega,by have:=M2.nx; omega,by have:=M2.nx; omega,by have:=M2.nx; omega,oM⟩,oM⟩
   have SM:=Q6 Hh f A (k:=0) (fun w=>by omega) M3 al3 oM hT (bT _) (b0:=blk 74) (w:=0) (old 74 oM).1 (old 74 oM).2.1 (nkI 74 (.inr ⟨.inr rfl,oM⟩)) (bmt 74 oM) ⟨sI 74 (.inr (.inr rfl)),bT _⟩ (by rw[e2']; exact ne 74 75 oM) oM (by rw[z74]; exact Tn _ oM) true ((kk p4 b4).trans a4) ((kk p11 b11).trans a11) (L:=[0,72 - 72]) (o:=1) ((kk p ⟨bp.1,oM⟩).trans hp2) rfl ⟨b4.1,by have:=k3.1; omega⟩ ⟨b11.1,by have:=k3.1; omega⟩ ⟨bp.1,by have:=k3.1; omega⟩ oM (by rw[e2']; exact b32 75 oM) (r1:=blk 75) (r2:=true) (Q:=fun h4=>h3.next<=h4.next/\Kp n q h2 h4/\∃ V',HE n q a b c e cr md S [] V' h4/\Al V' (m+3)/\V' (blk 8)=V (blk 8)/\V' (blk 73)=Jd zer0 0 (blk 74)/\V' (blk 74)=Jd zer0 0 (blk 75))
   rw[z74,e2'] at SM
   obtain⟨h4,c4,q4⟩:=SM (fun h4 W2 M4 al4 v4 _ k4=>⟨h4,Zf6 Hh _ _ _ _,Nat.le_refl _,k4.1,k3.then k4,_,M4,al4,by
    rw[Y9 (ne 8 74 oM),v4 _ (bmt 8 oM) (ne 8 75 oM),Y9 (ne 8 73 oM),v3 _ (bmt 8 oM) (ne 8 74 oM),v1 _ (bmt 8 oM) (ne 8 73 oM)],by
    rw[Y9 (ne 73 74 oM),v4 _ (bmt 73 oM) (ne 73 75 oM),Ov],Ov ..⟩)
   exact⟨h4,c4,q4.1,q4.2⟩))
  exact⟨h',_,_,V',cc,kp,X.set oM (b4 73 oM),M',al',R.Yad b4 q8 q73 q74⟩
 ·have ei:inc i=i+3:=by unfold inc; rw[if_neg oM,if_neg oM]
  have ei1:inc (i+1)=i+4:=by unfold inc; rw[if_neg oM,if_neg oM]
  have eb:bI i=i+3:=by unfold bI; rw[if_neg oM,if_neg oM]
  rw[ei] at e0
  have wi:=Zdn (i:=i) oM oM
  have p9:P 9=blk 73:=R.p9.trans (if_pos oM)
  have z:P (Uw i).1≠0:=by rw[wi]; show P 9≠0; rw[p9]; have:=(old 73 oM).2.2; omega
  have vl:=M.len (old 74 oM).1 (old 74 oM).2.1
  have g73:Yq (V (blk 73)) (4 * 0)=blk 74:=(R.v9 oM 0 oM).trans (if_pos rfl)
  have EA:=Z5s Hh f m0 M X (i:=i) oM ((0:Nat):Int) z (r1:=blk (i+3)) (r2:=true) (R:=fun V'=>Al V' (m+1)/\V' (blk 8)=V (blk 8)/\V' (blk 73)=V (blk 73)/\V' (blk 74)=Jd (V (blk 74)) (4 * (i - 72)) (blk (i+3)))
  rw[wi] at EA
  obtain⟨h',cc,kp,V',M',al',q8,q73,q74⟩:=EA (fun h1 s M1 sl sb=>Zc2 Hh M1 (fun h2 p4 p11 M2 n2 k2 a4 a11 b4 b11=>by
   obtain⟨p,rfl,hp⟩:=Zu3 Hh (by simp) sl
   have bp:=sb _ _ _ _ rfl
   have hp2:=(k2 p bp.2).trans hp
   show ∃ h2',Zi 116 [.c (.int .i64 (P 9:Nat)),_,_,_,_] _ _ h2'/\_
   rw[p9]
   have SH:=Z42 Hh f M2 (b0:=blk 73) (w:=0) (old 73 oM).1 (old 73 oM).2.1 oM (by rw[g73]; have:=(old 74 oM).2.2; omega) false a4 a11 (L:=[0,i - 72]) (o:=0) (k:=1) hp2 rfl b4 b11 ⟨bp.1,oM⟩ oM (r1:=blk (i+3)) (r2:=true) (Q:=fun h4=>Kp n q h2 h4/\∃ V',HE n q a b c e cr md S [] V' h4/\Al V' (m+1)/\V' (blk 8)=V (blk 8)/\V' (blk 73)=V (blk 73)/\V' (blk 74)=Jd (V (blk 74)) (4 * (i - 72)) (blk (i+3)))
   rw[g73] at SH
   refine SH (fun h3 M3 k3=>?_)
   have kk:=fun (m:Nat) (b:q+9<=m/\m<h2.next)=>k3.2 m b.2 (by have:=M2.nx; omega)
   have SM:=Q6 Hh f A (k:=0) (fun w=>by omega) M3 al oM hT (bT _) (b0:=blk 74) (w:=i - 72) (old 74 oM).1 (old 74 oM).2.1 (nkI 74 (.inr ⟨.inr rfl,oM⟩)) (bmt 74 oM) ⟨sI 74 (.inr (.inr rfl)),bT _⟩ (by rw[e0]; exact ne 74 (i+3) oM) oM ((R.v10 oM (i - 72) oM).trans (if_neg oM)) false ((kk p4 b4).trans a4) ((kk p11 b11).trans a11) (L:=[0,i - 72]) (o:=1) ((kk p ⟨bp.1,oM⟩).trans hp2) rfl ⟨b4.1,by have:=k3.1; omega⟩ ⟨b11.1,by have:=k3.1; omega⟩ ⟨bp.1,by have:=k3.1; omega⟩ oM (by rw[e0]; exact b32 (i+3) oM) (r1:=blk (i+3)) (r2:=true) (Q:=fun h4=>h3.next<=h4.next/\Kp n q h2 h4/\∃ V',HE n q a b c e cr md S [] V' h4/\Al V' (m+1)/\V' (blk 8)=V (blk 8)/\V' (blk 73)=V (blk 73)/\V' (blk 74)=Jd (V (blk 74)) (4 * (i - 72)) (blk (i+3)))
   rw[e0] at SM
   obtain⟨h4,c4,q4⟩:=SM (fun h4 W2 M4 al4 v4 _ k4=>⟨h4,Zf6 Hh _ _ _ _,Nat.le_refl _,k4.1,k3.kp.then k4,_,M4,al4,by
    rw[Y9 (ne 8 74 oM),v4 _ (bmt 8 oM) (ne 8 (i+3) oM)],by
    rw[Y9 (ne 73 74 oM),v4 _ (bmt 73 oM) (ne 73 (i+3) oM)],Ov ..⟩)
   exact⟨h4,c4,q4.1,q4.2⟩))
  exact⟨h',x,P,V',by rw[eb]; exact cc,kp,X,M',by rw[ei,ei1,show m+(i+4 - (i+3))=m+1 by omega]; exact al',R.Zff b4 oM oM vl q8 q73 q74⟩
end
open Go.Ev
def Rf (V:Nat->Lq):Nat->Nat->Lq
 | 0,b=>if b=0 then [] else [b]
 | k+1,b=>if b=0 then [] else b :: (List.range 64).flatMap fun w=>Rf V k (Yq (V b) (4 * w))
def Rq (p:Nat):Nat:=p - 7
theorem Ff (V:Nat->Lq) (k:Nat):Rf V k 0=[]:=by cases k<;>rfl
theorem Zhb {α β:Type} {f g:α->List β} {l:List α} (h:∀ x∈l,f x=g x):l.flatMap f=l.flatMap g:=by rw[List.flatMap_def,List.flatMap_def,List.map_congr_left h]
theorem Zfy {g:Nat->Nat} {c:Nat}:∀ m,((List.range m).flatMap fun w=>if w<c then [g w] else [])=(List.range (min m c)).map g
 | 0=>by rw[Nat.zero_min]; rfl
 | m+1=>by
  rw[List.range_succ,List.flatMap_append,Zfy m]
  by_cases h:m<c
  ·rw[show min (m+1) c=m+1 by omega,show min m c=m by omega,List.range_succ,List.map_append]
   simp [h]
  ·rw[show min (m+1) c=c by omega,show min m c=c by omega]
   simp [h]
theorem Zpd (blk:Nat->Nat) (t m:Nat):(List.range t).map blk++(List.range m).map (fun w=>blk (t+w))=(List.range (t+m)).map blk:=by
 rw[List.range_add,List.map_append,List.map_map]
 rfl
section
variable {blk:Nat->Nat} {V:Nat->Lq} {P:Nat->Nat} {i:Nat}
theorem RowF.all (R:RowF blk V P i) (nz:∀ k,k<128->blk k≠0) (hi:i<=100):((List.range 11).flatMap fun p=>Rf V (Rq p) (P p))=(List.range (inc i)).map blk:=by
 obtain⟨pd,p8,p9,p10,v8,v9,v10⟩:=R
 have d8:((List.range 8).flatMap fun p=>Rf V (Rq p) (P p))=(List.range (min 8 i)).map blk:=by
  rw[<-Zfy (g:=blk) (c:=i) 8]
  refine Zhb fun p hp=>?_
  have h8:=List.mem_range.1 hp
  rw[show Rq p=0 by unfold Rq; omega,pd p h8]
  by_cases w:p<i
  ·rw[if_pos w,if_pos w]
   exact if_neg (nz p oM)
  ·rw[if_neg w,if_neg w]
   rfl
 have e11:List.range 11=List.range 8++[8,9,10]:=rfl
 rw[e11,List.flatMap_append,d8]
 simp only[List.flatMap_cons,List.flatMap_nil,List.append_nil]
 rw[show Rq 8=1 from rfl,show Rq 9=2 from rfl,show Rq 10=3 from rfl,p10,Ff,List.append_nil]
 by_cases h8:8<i
 ·rw[if_pos h8] at p8
  have t8:Rf V 1 (P 8)=blk 8 :: (List.range (min 64 (i - 8))).map (fun w=>blk (9+w)):=by
   rw[p8]
   show (if blk 8=0 then _ else _)=_
   rw[if_neg (nz 8 oM),<-Zfy 64]
   congr 1
   refine Zhb fun w hw=>?_
   have hw:=List.mem_range.1 hw
   rw[v8 h8 w hw]
   by_cases q:8+w<i
   ·rw[if_pos q,if_pos oM]
    exact if_neg (nz _ oM)
   ·rw[if_neg q,if_neg oM]
    rfl
  rw[t8,show min 8 i=8 by omega]
  have m9:(List.range 8).map blk++blk 8 :: (List.range (min 64 (i - 8))).map (fun w=>blk (9+w))=(List.range (9+min 64 (i - 8))).map blk:=by
   have r9:(List.range 9).map blk=(List.range 8).map blk++[blk 8]:=by rw[List.range_succ,List.map_append]; rfl
   rw[<-Zpd,r9,List.append_assoc]
   rfl
  by_cases h72:72<i
  ·rw[if_pos h72] at p9
   have t9:Rf V 2 (P 9)=blk 73 :: blk 74 :: (List.range (min 64 (i - 72))).map (fun w=>blk (75+w)):=by
    rw[p9]
    show (if blk 73=0 then _ else _)=_
    rw[if_neg (nz 73 oM)]
    congr 1
    have e64:List.range 64=0 :: (List.range 63).map (· + 1):=by rw[show (64:Nat)=63+1 from rfl,List.range_succ_eq_map]
    have g0:Yq (V (blk 73)) (4 * 0)=blk 74:=(v9 h72 0 oM).trans (if_pos rfl)
    have rest:((List.range 63).map (· + 1)).flatMap (fun w=>Rf V 1 (Yq (V (blk 73)) (4 * w)))=[]:=by
     rw[List.flatMap_eq_nil_iff]
     intro w hw
     obtain⟨k,hk,rfl⟩:=List.mem_map.1 hw
     have:=List.mem_range.1 hk
     rw[v9 h72 (k+1) oM,if_neg oM]
     exact Ff V 1
    rw[e64,List.flatMap_cons,rest,List.append_nil,g0]
    show (if blk 74=0 then _ else _)=_
    rw[if_neg (nz 74 oM),<-Zfy 64]
    congr 1
    refine Zhb fun w hw=>?_
    have hw:=List.mem_range.1 hw
    rw[v10 h72 w hw]
    by_cases q:72+w<i
    ·rw[if_pos q,if_pos oM]
     exact if_neg (nz _ oM)
    ·rw[if_neg q,if_neg oM]
     rfl
   rw[t9,<-List.append_assoc,m9,show 9+min 64 (i - 8)=73 by omega]
   have ei:inc i=75+min 64 (i - 72):=by unfold inc; rw[if_neg oM,if_neg oM]; omega
   have r75:(List.range 75).map blk=(List.range 73).map blk++[blk 73,blk 74]:=by rw[List.range_succ,List.range_succ,List.map_append,List.map_append,List.append_assoc]; rfl
   rw[ei,<-Zpd,r75,List.append_assoc]
   rfl
  ·rw[if_neg h72] at p9
   rw[p9,Ff,List.append_nil,m9]
   have ei:inc i=9+min 64 (i - 8):=by unfold inc; rw[if_neg oM,if_pos oM]; omega
   rw[ei]
 ·rw[if_neg h8] at p8
  rw[if_neg oM] at p9
  rw[p8,p9,Ff,Ff,List.append_nil,List.append_nil]
  have ei:inc i=min 8 i:=by unfold inc; rw[if_pos oM]; omega
  rw[ei]
theorem RowF.find (R:RowF blk V P i) (nz:∀ k,k<128->blk k≠0) (hi:i<=100) {j:Nat} (hj:j<110):Zbc V P j=if j<i then blk (bI j) else 0:=by
 obtain⟨pd,p8,p9,p10,v8,v9,v10⟩:=R
 unfold Zbc
 rcases Nat.lt_or_ge j 8 with h|h
 ·rw[Zay h]
  show P j=_
  rw[pd j h,show bI j=j from if_pos h]
 rcases Nat.lt_or_ge j 72 with h2|h2
 ·rw[Zaz h h2]
  show (if P 8=0 then 0 else Yq (V (P 8)) (4 * (j - 8)))=_
  rw[show bI j=j+1 by unfold bI; rw[if_neg oM,if_pos h2]]
  by_cases q:8<i
  ·rw[p8,if_pos q,if_neg (nz 8 oM),v8 q _ oM]
   rw[show 8+(j - 8)=j by omega,show 9+(j - 8)=j+1 by omega]
  ·rw[p8,if_neg q,if_pos rfl,if_neg oM]
 ·rw[Zdn h2 oM]
  show (if (if P 9=0 then 0 else Yq (V (P 9)) (4 * 0))=0 then 0 else Yq (V (if P 9=0 then 0 else Yq (V (P 9)) (4 * 0))) (4 * (j - 72)))=_
  rw[show bI j=j+3 by unfold bI; rw[if_neg oM,if_neg oM]]
  by_cases q:72<i
  ·rw[p9,if_pos q,if_neg (nz 73 oM),v9 q 0 oM,if_pos rfl,if_neg (nz 74 oM),v10 q _ oM]
   rw[show 72+(j - 72)=j by omega,show 75+(j - 72)=j+3 by omega]
  ·rw[p9,if_neg q,if_pos rfl,if_pos rfl,if_neg oM]
end
open Go.Ev
theorem Bl:Y1 4 60 8 40=true:=kR
def Yo (m:Nat):Nat:=Wv 60 8 40 m
def chM:Lq:=[1,42,102,Yo 8,Yo 73,Yo 74]
theorem O4 (m:Nat):Yo m=46+m / 56 * 60+m % 56:=by
 show 2+40+m / 56 * 60+(2+8 / 4+m % 56)=_
 omega
theorem Z83:∀ k∈chM,k<4096:=by
 intro k hk
 unfold chM at hk
 rw[O4,O4,O4] at hk
 simp only[List.mem_cons,List.not_mem_nil,or_false] at hk
 omega
theorem Zzl (i:Nat):inc i<=inc (i+1):=by
 unfold inc
 by_cases w1:i<=8
 ·rw[if_pos w1]
  split
  ·omega
  ·split<;>omega
 ·rw[if_neg w1,if_neg (by omega:¬ i+1<=8)]
  by_cases w2:i<=72
  ·rw[if_pos w2]
   split<;>omega
  ·rw[if_neg w2,if_neg (by omega:¬ i+1<=72)]
   omega
theorem alM:AlG 4 60 8 40 (iw0 8) V4 0:=by
 refine⟨fun k hk=>?_,⟨kR,kR,M6⟩,Zgb (Zml oM)⟩
 match k,hk with
 | 0,_=>exact (by kernel_rfl:V4 42=Zfm (gG 60 8 0 0))
 | 1,_=>exact (by kernel_rfl:V4 102=Zfm (gG 60 8 0 1))
 | 2,_=>exact (by kernel_rfl:V4 162=Zfm (gG 60 8 0 2))
 | 3,_=>exact (by kernel_rfl:V4 222=Zfm (gG 60 8 0 3))
 | k+4,hk=>omega
def nkM (lo near:Nat):Prop:=near<9223372036854775808/\Fj 4 60 8 40 near * fF 60 8<=lo
theorem Z94 {i:Nat} (hi:i<100):RowB 4 60 8 40 chM (mtG 4 60 40) (nkM (inc i)) Yo i:=by
 have bn:∀ k,k<128->Yo k<282/\42<=Yo k:=fun k hk=>by rw[O4]; omega
 have n0:Fj 4 60 8 40 0=0:=kR
 refine⟨fun k l e=>Zgo Bl e,fun k hk=>by have:=bn k hk; omega,fun k hk w=>?_,fun k hk=>⟨F7 (Ya Bl) (bn k hk).2 (bn k hk).1,(bn k hk).1,by have:=bn k hk; omega⟩,⟨oM,by rw[n0]; omega⟩,fun k hk=>⟨?_,?_⟩,fun k hk=>?_⟩
 ·rcases w with w|⟨g,_,w⟩
  ·have:=bn k hk; omega
  ·exact Zcg (m:=k) Bl (k:=g) (r:=0) oM w
 ·rcases hk with ⟨rfl,_⟩|⟨rfl|rfl,_⟩<;>(rw[O4]; omega)
 ·have n8:Fj 4 60 8 40 (Yo 8)=0:=kR
  have n73:Fj 4 60 8 40 (Yo 73)=1:=kR
  have n74:Fj 4 60 8 40 (Yo 74)=1:=kR
  have ff:fF 60 8=56:=rfl
  rw[ff]
  rcases hk with ⟨rfl,_⟩|⟨rfl|rfl,h72⟩
  ·rw[n8]; omega
  ·rw[n73]; unfold inc; split
   ·omega
   ·split<;>omega
  ·rw[n74]; unfold inc; split
   ·omega
   ·split<;>omega
 ·unfold chM
  rcases hk with rfl|rfl|rfl<;>simp
section
variable (Hh:Hearts K Tryz.prog)
include Hh
variable {n q:Nat} {md:Int} {V:Nat->Lq} {h:Hq}
theorem Z4u (m0:md≠0) {i:Nat} (hi:i<100) (M:HE n q 4 60 8 40 (Cr.cl chM) md [] [] V h) (al:AlG 4 60 8 40 (iw0 8) V (inc i)) {x:List C} {P:Nat->Nat} (X:InoP x P) (R:RowF Yo V P i) :
  ∃ h1 h2 x' P' V',Zi 8 [.c (.ptr (n+13) 0),.c (.int .i64 12),.c (.int .i64 0)] h (.w (.c (.int .i64 0))) h1/\Zi 16 [.c (.ptr (n+13) 0),.g x,.c (.int .i64 (i:Int)),.c (.int .i64 0)] h1 (.tup [.g x',.c (.int .i64 (Yo (bI i):Nat)),.c (.bool true),.c (.int .i64 0)]) h2/\AlG 4 60 8 40 (iw0 8) V' (inc (i+1))/\InoP x' P'/\RowF Yo V' P' (i+1)/\h.next<=h1.next/\h1.next<=h2.next/\(∀ m,m<h.next->n+23<=m->h1.get m=h.get m/\h2.get m=h.get m)/\∀ h4,h2.next<=h4.next->(∀ m,m<h2.next->h4.get m=h2.get m)->∃ h3 q',Zi 10 [.c (.ptr (n+13) 0)] h4 (.w (.c (.int .i64 0))) h3/\HE n q' 4 60 8 40 (Cr.cl chM) md [] [] V' h3/\(h4.next<=h3.next/\h4.next<=q'+5)/\∀ m,m<h4.next->n+23<=m->h3.get m=h4.get m:=by
 have c6:chM.length=6:=rfl
 obtain⟨h1,b1,M1,nx1,k1⟩:=M.beg Bl (x:=12) (r:=0) (s1:=14) (s2:=20) (C:=chM) (S':=chM) (fun k hk=>by simpa using hk) Z83 oM rfl dM rfl dM dM
 have e3:inc i+3<=4 * fF 60 8:=by
  show inc i+3<=4 * 56
  unfold inc; split
  ·omega
  ·split<;>omega
 have A:=Yam (n:=n) (q:=h.next) (cr:=Cr.on 12 0 chM) (md:=md) (S:=chM) (a:=4) (b:=60) (c:=8) (e:=40) (iw:=iw0 8) (cap:=3) Hh Bl (Zml oM) (lo:=inc i) e3 (by simp [chM]) (fun m hm=>by
  show 2+40+(inc i+m) / 56 * 60∈chM
  have:inc i+m<112:=by
   unfold inc; split
   ·omega
   ·split<;>omega
  have:(inc i+m) / 56=0\/(inc i+m) / 56=1:=oM
  rcases this with w|w<;>(rw[w]; simp [chM]))
 obtain⟨h2,x',P',V',c2,kp2,X',M2,al2,R2⟩:=Z73 Hh Bl m0 A (m:=0) oM rfl rfl rfl (Z94 hi) M1 al X R hi
 have im:=Zzl i
 have ei:inc i+(0+(inc (i+1) - inc i))=inc (i+1):=oM
 have nx:=M.nx
 refine⟨h1,h2,x',P',V',Zxp Hh b1,c2,by rw[<-ei]; exact al2,X',R2,nx1,kp2.1,fun m hm o=>?_,fun h4 n4 k4=>?_⟩
 ·have e1:=k1 m hm oM oM
  exact⟨e1,(kp2.2 m oM ⟨⟨oM,oM,oM,oM,oM⟩,oM⟩).trans e1⟩
 ·obtain⟨h3,e4,M3,nx3,k3⟩:=(M2.keep n4 fun m hm=>k4 m (by have:=M2.nx; omega)).fin Bl (C:=chM) (fun k hk=>by
   rcases List.mem_append.1 hk with w|w<;>exact w)
  exact⟨h3,_,Zxr Hh e4,M3,⟨oM,oM⟩,fun m hm o=>k3 m hm oM oM⟩
end
end Go.Proofs.YteiljiijagmonaaGreatDoor
