/- Cuts of a row's indirect blocks, and of its pointers. -/
import Derived.Test.YteiljiijagmonaaGreatDoorCkg
set_option maxRecDepth 100000
set_option maxHeartbeats 4000000
set_option linter.unusedSimpArgs false
set_option linter.unusedVariables false
set_option linter.unusedSectionVars false
namespace Go.Proofs.YteiljiijagmonaaGreatDoor
open Go.Ev
def Fh (β k w:Nat):Nat:=if β+1+w<k then Yo (β+1+w) else 0
def Zbz (k w:Nat):Nat:=if w=0/\74<k then Yo 74 else 0
theorem Zgp (k:Nat):0<Yo k:=by rw[O4]; omega
theorem Zae {k:Nat} (h:k<103):Yo k<282:=by rw[O4]; omega
theorem Zzq (β k w:Nat):Fh β (min k 103) w<4294967296:=by
 unfold Fh
 split
 ·have:=Zae (k:=β+1+w) oM; omega
 ·omega
theorem Zrr (β k:Nat):(∀ w,w<64->Fh β k w=0) ↔ k<=β+1:=by
 constructor
 ·intro a
  refine Nat.le_of_not_lt fun w=>?_
  have:=a 0 oM
  unfold Fh at this
  rw[if_pos oM] at this
  have:=Zgp (β+1+0)
  omega
 ·intro a w _
  unfold Fh
  rw[if_neg oM]
theorem Zvu (k:Nat):(∀ w,w<64->Zbz k w=0) ↔ k<=74:=by
 constructor
 ·intro a
  refine Nat.le_of_not_lt fun w=>?_
  have:=a 0 oM
  unfold Zbz at this
  rw[if_pos ⟨rfl,oM⟩] at this
  have:=Zgp 74
  omega
 ·intro a w _
  unfold Zbz
  rw[if_neg oM]
def QL (β:Nat) (V0:Nat->Lq) (k:Nat) (V:Nat->Lq):Prop:=∀ j,j<k->j<103->j≠β->V (Yo j)=V0 (Yo j)
theorem Zof {β:Nat} (h:β<103):Uu 4 60 8 40 (Yo β:Nat)=true/\Yo β<2+40+4 * 60/\Yo β≠1/\∀ k,k<4->2+40+k * 60≠Yo β:=by
 have h1:=O4 β
 have h2:=Zae h
 exact⟨F7 (Ya Bl) oM oM,oM,oM,fun k hk w=>Zcg (m:=β) Bl (k:=k) (r:=0) oM (by rw[Nat.add_zero]; exact w.symm)⟩
section
variable (Hh:Hearts K Tryz.prog)
include Hh
variable {n q sh pc pb pk pl fr mo k nn:Nat} {md:Int} {V V0:Nat->Lq} {h:Hq}
theorem Zz1 {β w lv:Nat} (C:CS n q md sh pc pb pk pl fr mo k nn false V h) (kK:k<=β+1) (fi:Int) (z:Nat) (hz:z=if β<k then Yo β else 0) (hl:β<k->lv=0):∃ k2 nn2 fu2 V2 h2,Zi 77 [.c (.int .i64 (z:Nat)),.c (.int .i64 (lv:Nat)),.c (.int .i64 fi),.c (.ptr pl 0),.c (.ptr pb 0)] h (.tup [.c (.int .i64 ((if β<k2 then Yo β else 0:Nat):Int)),.c (.int .i64 0)]) h2/\CS n q md sh pc pb pk pl fr mo k2 nn2 fu2 V2 h2/\Kc n q pc h h2/\Acc mo β k nn k2 nn2 fu2/\(∀ j,j<103->j<k2\/j≠β->V2 (Yo j)=V (Yo j))/\(k2=k\/(k=β+1/\k2=β)):=by
 subst hz
 have le:=C.le
 by_cases hk:β<k
 ·obtain rfl:=hl hk
  obtain rfl:k=β+1:=oM
  rw[if_pos hk]
  by_cases nm:nn<mo
  ·obtain⟨h',V',c,C2,kc,ag⟩:=Z6o Hh C nm fi
   refine⟨β,nn+1,false,V',h',?_,C2,kc,⟨oM,fun _=>by omega,fun w=>by cases w⟩,fun j hj hne=>ag j hj oM,.inr ⟨rfl,rfl⟩⟩
   rw[if_neg oM]
   exact c
  ·obtain rfl:nn=mo:=oM
   obtain⟨h',c,C2,kc⟩:=Z3a Hh C (Zgp β) fi
   refine⟨β+1,nn,true,V,h',?_,C2,kc,⟨rfl,(fun w=>by cases w),fun _=>⟨rfl,oM⟩⟩,fun _ _ _=>rfl,.inl rfl⟩
   rw[if_pos hk]
   exact c
 ·rw[if_neg hk]
  refine⟨k,nn,false,V,h,?_,C,Kc.refl ..,⟨rfl,fun _=>by omega,fun w=>by cases w⟩,fun _ _ _=>rfl,.inl rfl⟩
  rw[if_neg hk]
  exact Zby Hh _ _ _ _ _
theorem Z32 {β w st:Nat} (b:β<102):Zgc n q md sh pc pb pk pl fr mo (fun k w=>Fh β (min k 103) w) (QL β V0) (Yo β) 1 st w (β+1+w) (β+1+(w+1)):=by
 intro k nn V h C Q kK
 have kl:=C.kl
 have e1:((1:Nat):Int) - 1=((0:Nat):Int):=rfl
 obtain⟨k2,nn2,fu2,V2,h2,c,C2,kc,ac,ag,kk⟩:=Zz1 Hh (β:=β+1+w) (w:=w) (lv:=0) C kK (st:Int) _ rfl (fun _=>rfl)
 have kl2:=C2.kl
 refine⟨k2,nn2,fu2,V2,h2,?_,C2,fun j hj h3 hne=>?_,kc,ag β oM oM,fun w' hw hne=>?_,ac⟩
 ·simp only[Fh,Nat.min_eq_left kl,Nat.min_eq_left kl2,e1]
  exact c
 ·rw[ag j h3 oM]
  exact Q j oM h3 hne
 ·simp only[Fh,Nat.min_eq_left kl,Nat.min_eq_left kl2]
  rcases kk with rfl|⟨rfl,rfl⟩
  ·rfl
  ·by_cases x:β+1+w'<β+1+w
   ·rw[if_pos x,if_pos oM]
   ·rw[if_neg x,if_neg oM]
theorem Zum {β f0 T:Nat} (C:CS n q md sh pc pb pk pl fr mo k nn false V h) (b:Yo β∈chM/\β<102) (bk:β<k) (kK:k<=β+65) (hp:∀ w,w<64->Yq (V (Yo β)) (4 * w)=Fh β k w) (f4:f0<1000/\fr<1000) (hm:(fr<=f0/\T=β)\/(f0<fr/\β+2<=k/\T=β+1+min 64 (fr - f0))) :
  ∃ k2 nn2 fu2 V2 h',Zi 77 [.c (.int .i64 (Yo β:Nat)),.c (.int .i64 ((1:Nat):Int)),.c (.int .i64 (f0:Int)),.c (.ptr pl 0),.c (.ptr pb 0)] h (.tup [.c (.int .i64 ((if β<k2 then Yo β else 0:Nat):Int)),.c (.int .i64 0)]) h'/\CS n q md sh pc pb pk pl fr mo k2 nn2 fu2 V2 h'/\Kc n q pc h h'/\QL β V k2 V2/\Acc mo T k nn k2 nn2 fu2/\(β<k2->∀ w,w<64->Yq (V2 (Yo β)) (4 * w)=Fh β k2 w):=by
 have kl:=C.kl
 obtain⟨o1,o2,o3,o4⟩:=Zof (Nat.lt_succ_of_lt b.2)
 have bel:=Zt6 Hh (sp:=1) (fi:=f0) (w0:=min 64 (fr - f0)) (Kf:=fun w=>β+1+w) (lv:=1) oM (fun w _ _=>Z32 Hh (V0:=V) (st:=f0+w * 1) b.2) (fun i j hij=>by show β+1+i<=β+1+j; omega) (Zzq β) oM oM oM (fun w hw=>by omega) oM (span0 Hh) C (by show k<=β+1+64; omega) (fun j _ _ _=>rfl) (fun w hw=>by rw[hp w hw,Nat.min_eq_left kl]) o1 o2 b.1 ⟨o3,o4⟩ (fun k V' ns Q j h1 h2 h3=>by rw[Y9 (fun w=>h3 (Ww w))]; exact Q j h1 h2 h3)
 have zp:∀ k',(∀ w,w<64->Fh β (min k' 103) w=0) ↔ k'<=β+1:=fun k'=>(Zrr β (min k' 103)).trans oM
 have hm':(β+1+min 64 (fr - f0)=β+1/\T=β)\/(β+2<=β+1+min 64 (fr - f0)/\β+2<=k/\T=β+1+min 64 (fr - f0)):=oM
 obtain⟨k2,nn2,fu2,V2,h',c,C2,kc,Q2,ac,pt⟩:=Zub Hh (T:=T) C oM bk bel zp hm' (fun V1 V' ag Q j h1 h2 h3=>(ag j h2 h3).trans (Q j oM h2 h3))
 have kl2:=C2.kl
 exact⟨k2,nn2,fu2,V2,h',c,C2,kc,Q2,ac,fun hb w hw=>by rw[pt hb w hw,Nat.min_eq_left kl2]⟩
end
def t74 (fr:Nat):Nat:=if fr<=72 then 74 else 75+min 64 (fr - 72)
structure QD (fr:Nat) (V0:Nat->Lq) (k:Nat) (V:Nat->Lq):Prop where
 o:∀ j,j<k->j<103->j≠73->j≠74->V (Yo j)=V0 (Yo j)
 l:74<k->∀ w,w<64->Yq (V (Yo 74)) (4 * w)=Fh 74 k w
 b:72<fr->76<=k
theorem Z3f (k w:Nat):Zbz k w<4294967296:=by
 unfold Zbz
 split
 ·have:=Zae (k:=74) oM; omega
 ·omega
section
variable (Hh:Hearts K Tryz.prog)
include Hh
variable {n q sh pc pb pk pl fr mo k nn:Nat} {md:Int} {V V0:Nat->Lq} {h:Hq}
theorem Z6t {w:Nat} (f4:fr<110):Zgc n q md sh pc pb pk pl fr mo Zbz (QD fr V0) (Yo 73) 2 (72+w * 64) w (if w=0 then t74 fr else 139) (if w+1=0 then t74 fr else 139):=by
 intro k nn V h C Q kK
 have kl:=C.kl
 have e1:((2:Nat):Int) - 1=((1:Nat):Int):=rfl
 have e2:(((2:Nat):Int) - 1)=(1:Int):=rfl
 by_cases w0:w=0
 ·subst w0
  by_cases hk:74<k
  ·have hm:(fr<=72/\t74 fr=74)\/(72<fr/\74+2<=k/\t74 fr=74+1+min 64 (fr - 72)):=by
    unfold t74
    by_cases x:fr<=72
    ·left; exact⟨x,if_pos x⟩
    ·right; exact⟨oM,Q.b oM,by rw[if_neg x]⟩
   have t7:74<=t74 fr/\(72<fr->76<=t74 fr):=by rcases hm with ⟨a1,a2⟩|⟨a1,a2,a3⟩<;>omega
   obtain⟨k2,nn2,fu2,V2,h2,c,C2,kc,Q2,ac,pt⟩:=Zum Hh (β:=74) (f0:=72) (T:=t74 fr) C ⟨by simp [chM],oM⟩ hk oM (Q.l hk) oM hm
   obtain⟨a1,a2,a3⟩:=id ac
   have k73:74<=k2/\k2<=k:=by
    cases fu2 with
    | false=>have:=a2 rfl; omega
    | true=>have:=a3 rfl; have:=C.le; omega
   refine⟨k2,nn2,fu2,V2,h2,?_,C2,⟨fun j h1 h3 h4 h5=>(Q2 j h1 h3 h5).trans (Q.o j oM h3 h4 h5),pt,fun x=>?_⟩,kc,Q2 73 oM oM oM,fun w' _ hne=>?_,ac⟩
   ·rw[e1,show 72+0 * 64=72 from rfl]
    unfold Zbz
    rw[if_pos ⟨rfl,hk⟩]
    by_cases x:74<k2
    ·rw[if_pos ⟨rfl,x⟩]
     rw[if_pos x] at c
     exact c
    ·rw[if_neg (fun y=>x y.2)]
     rw[if_neg x] at c
     exact c
   ·have:=Q.b x
    cases fu2 with
    | false=>have:=a2 rfl; omega
    | true=>have:=a3 rfl; omega
   ·unfold Zbz
    rw[if_neg (fun y=>hne y.1),if_neg (fun y=>hne y.1)]
  ·refine⟨k,nn,false,V,h,?_,C,Q,Kc.refl ..,rfl,fun _ _ _=>rfl,⟨rfl,fun _=>?_,fun w=>by cases w⟩⟩
   ·unfold Zbz
    rw[if_neg (fun y=>hk y.2)]
    exact Zby Hh _ _ _ _ _
   ·rw[if_pos rfl]
    unfold t74
    split
    ·omega
    ·omega
 ·refine⟨k,nn,false,V,h,?_,C,Q,Kc.refl ..,rfl,fun _ _ _=>rfl,⟨rfl,fun _=>?_,fun w=>by cases w⟩⟩
  ·unfold Zbz
   rw[if_neg (fun y=>w0 y.1)]
   exact Zby Hh _ _ _ _ _
  ·rw[if_neg w0]; omega
theorem Z6s {T:Nat} (C:CS n q md sh pc pb pk pl fr mo k nn false V h) (bk:73<k) (hp:∀ w,w<64->Yq (V (Yo 73)) (4 * w)=Zbz k w) (h74:74<k->∀ w,w<64->Yq (V (Yo 74)) (4 * w)=Fh 74 k w) (f4:fr<110) (hm:(fr<=72/\T=73)\/(72<fr/\76<=k/\T=75+min 64 (fr - 72))) :
  ∃ k2 nn2 fu2 V2 h',Zi 77 [.c (.int .i64 (Yo 73:Nat)),.c (.int .i64 ((2:Nat):Int)),.c (.int .i64 ((72:Nat):Int)),.c (.ptr pl 0),.c (.ptr pb 0)] h (.tup [.c (.int .i64 ((if 73<k2 then Yo 73 else 0:Nat):Int)),.c (.int .i64 0)]) h'/\CS n q md sh pc pb pk pl fr mo k2 nn2 fu2 V2 h'/\Kc n q pc h h'/\QD fr V k2 V2/\Acc mo T k nn k2 nn2 fu2/\(73<k2->∀ w,w<64->Yq (V2 (Yo 73)) (4 * w)=Zbz k2 w):=by
 have kl:=C.kl
 obtain⟨o1,o2,o3,o4⟩:=Zof (β:=73) oM
 have Q0:QD fr V k V:=⟨fun _ _ _ _ _=>rfl,h74,fun x=>by omega⟩
 have t7:(if (0:Nat)=0 then t74 fr else 139)=t74 fr:=rfl
 have t8:t74 fr<=139:=by unfold t74; split<;>omega
 have bel:=Zt6 Hh (sp:=64) (fi:=72) (w0:=0) (Kf:=fun w=>if w=0 then t74 fr else 139) (lv:=2) oM (fun w _ _=>Z6t Hh (V0:=V) f4) (fun i j hij=>by
  show (if i=0 then t74 fr else 139)<=(if j=0 then t74 fr else 139)
  by_cases a:i=0
  ·rw[if_pos a]; split<;>omega
  ·rw[if_neg a,if_neg oM]; exact Nat.le_refl _) Z3f oM oM oM (fun w hw=>by omega) oM (span1 Hh) C (by show k<=139; omega) Q0 hp o1 o2 (by simp [chM]) ⟨o3,o4⟩ (fun k V' ns Q=>⟨fun j h1 h2 h3 h4=>by rw[Y9 (fun w=>h3 (Ww w))]; exact Q.o j h1 h2 h3 h4,fun x=>by rw[Y9 (fun w=>by have:=Ww w; omega)]; exact Q.l x,Q.b⟩)
 have hm':(t74 fr=73+1/\T=73)\/(73+2<=t74 fr/\73+2<=k/\T=t74 fr):=by
  unfold t74
  rcases hm with ⟨a1,a2⟩|⟨a1,a2,a3⟩
  ·rw[if_pos a1]; exact .inl ⟨rfl,a2⟩
  ·rw[if_neg oM]; omega
 obtain⟨k2,nn2,fu2,V2,h',c,C2,kc,Q2,ac,pt⟩:=Zub Hh (T:=T) C oM bk bel Zvu hm' (fun V1 V' ag Q=>⟨fun j h1 h2 h3 h4=>(ag j h2 h3).trans (Q.o j oM h2 h3 h4),fun w=>by omega,fun x=>by have:=Q.b x; omega⟩)
 exact⟨k2,nn2,fu2,V2,h',c,C2,kc,Q2,ac,pt⟩
end
def Ec (k p:Nat):Nat:=if p<8 then (if p<k then Yo p else 0) else if p=8 then (if 8<k then Yo 8 else 0) else if p=9 then (if 73<k then Yo 73 else 0) else 0
structure RK (fr k:Nat) (V:Nat->Lq):Prop where
 v8:8<k->∀ w,w<64->Yq (V (Yo 8)) (4 * w)=Fh 8 k w
 v9:73<k->∀ w,w<64->Yq (V (Yo 73)) (4 * w)=Zbz k w
 v10:74<k->∀ w,w<64->Yq (V (Yo 74)) (4 * w)=Fh 74 k w
 l1:8<fr->k≠9
 l2:72<fr->k≠74/\k≠75
def lvP (p:Nat):Nat:=if p<8 then 0 else p - 7
def fiP (p:Nat):Nat:=if p<8 then p else if p=8 then 8 else if p=9 then 72 else 4168
def Kpt (fr p:Nat):Nat:=if p<8 then p else if p=8 then (if fr<=8 then 8 else fr+1) else if p=9 then (if fr<=72 then 73 else fr+3) else 200
section
variable (Hh:Hearts K Tryz.prog)
include Hh
variable {n q sh pc pb pk pl fr mo k nn:Nat} {md:Int} {V V0:Nat->Lq} {h:Hq}
theorem Z79 {p:Nat} (hp:p<11) (f4:fr<110) (vis:p<8->fr<=p) (vis8:p=8->fr<72) (C:CS n q md sh pc pb pk pl fr mo k nn false V h) (R:RK fr k V) (kK:k<=Kpt fr (p+1)) :
  ∃ k2 nn2 fu2 V2 h',Zi 77 [.c (.int .i64 (Ec k p:Nat)),.c (.int .i64 (lvP p:Nat)),.c (.int .i64 (fiP p:Nat)),.c (.ptr pl 0),.c (.ptr pb 0)] h (.tup [.c (.int .i64 (Ec k2 p:Nat)),.c (.int .i64 0)]) h'/\CS n q md sh pc pb pk pl fr mo k2 nn2 fu2 V2 h'/\Kc n q pc h h'/\RK fr k2 V2/\Acc mo (Kpt fr p) k nn k2 nn2 fu2/\(∀ p',p'≠p->Ec k2 p'=Ec k p')/\k2<=k:=by
 have kl:=C.kl
 by_cases p8:p<8
 ·have kp1:k<=p+1:=by
   have:=vis p8
   unfold Kpt at kK
   by_cases x:p+1<8
   ·rw[if_pos x] at kK; exact kK
   ·rw[if_neg x,if_pos oM,if_pos oM] at kK; omega
  obtain⟨k2,nn2,fu2,V2,h2,c,C2,kc,ac,ag,kk⟩:=Zz1 Hh (β:=p) (w:=0) (lv:=0) C kp1 ((fiP p:Nat):Int) _ rfl (fun _=>rfl)
  have vis:=vis p8
  refine⟨k2,nn2,fu2,V2,h2,?_,C2,kc,⟨fun w=>by omega,fun w=>by omega,fun w=>by omega,fun w=>by omega,fun w=>by omega⟩,?_,fun p' hne=>?_,oM⟩
  ·simp only[Ec,lvP,if_pos p8]
   exact c
  ·unfold Kpt
   rw[if_pos p8]
   exact ac
  ·unfold Ec
   rcases kk with rfl|⟨rfl,rfl⟩
   ·rfl
   ·by_cases x:p'<8
    ·rw[if_pos x,if_pos x]
     by_cases y:p'<k2
     ·rw[if_pos y,if_pos oM]
     ·rw[if_neg y,if_neg oM]
    ·rw[if_neg x,if_neg x]
     by_cases y:p'=8
     ·rw[if_pos y,if_pos y,if_neg oM,if_neg oM]
     ·rw[if_neg y,if_neg y]
      by_cases z:p'=9
      ·rw[if_pos z,if_pos z,if_neg oM,if_neg oM]
      ·rw[if_neg z,if_neg z]
 ·have nil:Ec k p=0->(∀ T,T=Kpt fr p->k<=T)->∃ k2 nn2 fu2 V2 h',Zi 77 [.c (.int .i64 (Ec k p:Nat)),.c (.int .i64 (lvP p:Nat)),.c (.int .i64 (fiP p:Nat)),.c (.ptr pl 0),.c (.ptr pb 0)] h (.tup [.c (.int .i64 (Ec k2 p:Nat)),.c (.int .i64 0)]) h'/\CS n q md sh pc pb pk pl fr mo k2 nn2 fu2 V2 h'/\Kc n q pc h h'/\RK fr k2 V2/\Acc mo (Kpt fr p) k nn k2 nn2 fu2/\(∀ p',p'≠p->Ec k2 p'=Ec k p')/\k2<=k:=fun e l=>by
   refine⟨k,nn,false,V,h,?_,C,Kc.refl ..,R,⟨rfl,fun _=>?_,fun w=>by cases w⟩,fun _ _=>rfl,Nat.le_refl _⟩
   ·rw[e]
    exact Zby Hh _ _ _ _ _
   ·have:=l _ rfl
    omega
  have leC:=C.le
  by_cases p9:p=8
  ·subst p9
   have v8:=vis8 rfl
   have kK:k<=73:=by
    have e:Kpt fr (8+1)=73:=by
     unfold Kpt
     rw[if_neg oM,if_neg oM,if_pos rfl,if_pos oM]
    rw[e] at kK
    exact kK
   by_cases hk:8<k
   ·have hm:(fr<=8/\Kpt fr 8=8)\/(8<fr/\8+2<=k/\Kpt fr 8=8+1+min 64 (fr - 8)):=by
     unfold Kpt
     rw[if_neg oM,if_pos rfl]
     by_cases x:fr<=8
     ·rw[if_pos x]; exact .inl ⟨x,rfl⟩
     ·rw[if_neg x]; have:=R.l1 oM; omega
    obtain⟨T,hT⟩:=xzE (Kpt fr 8)
    rw[hT] at hm ⊢
    obtain⟨k2,nn2,fu2,V2,h2,c,C2,kc,Q2,ac,pt⟩:=Zum Hh (β:=8) (f0:=8) (T:=T) C ⟨by simp [chM],oM⟩ hk oM (R.v8 hk) oM hm
    have k8:8<=k2/\k2<=k/\(8<fr->10<=k2):=by
     obtain⟨a1,a2,a3⟩:=id ac
     cases fu2 with
     | false=>have:=a2 rfl; omega
     | true=>have:=a3 rfl; omega
    refine⟨k2,nn2,fu2,V2,h2,?_,C2,kc,⟨pt,fun w=>by omega,fun w=>by omega,fun w=>by have:=k8.2.2 w; omega,fun w=>by omega⟩,ac,fun p' hne=>?_,k8.2.1⟩
    ·have e1:Ec k 8=Yo 8:=if_pos hk
     have e2:Ec k2 8=if 8<k2 then Yo 8 else 0:=rfl
     rw[e1,e2]
     exact c
    ·unfold Ec
     by_cases x:p'<8
     ·rw[if_pos x,if_pos x,if_pos oM,if_pos oM]
     ·rw[if_neg x,if_neg x,if_neg hne,if_neg hne]
      by_cases y:p'=9
      ·rw[if_pos y,if_pos y,if_neg oM,if_neg oM]
      ·rw[if_neg y,if_neg y]
   ·exact nil (show (if 8<k then Yo 8 else 0)=0 from if_neg hk) (fun T hT=>by
     have e:Kpt fr 8=if fr<=8 then 8 else fr+1:=rfl
     rw[hT,e]
     split<;>omega)
  by_cases p10:p=9
  ·subst p10
   by_cases hk:73<k
   ·have hm:(fr<=72/\Kpt fr 9=73)\/(72<fr/\76<=k/\Kpt fr 9=75+min 64 (fr - 72)):=by
     have e:Kpt fr 9=if fr<=72 then 73 else fr+3:=rfl
     rw[e]
     by_cases x:fr<=72
     ·rw[if_pos x]; exact .inl ⟨x,rfl⟩
     ·rw[if_neg x]; have:=R.l2 oM; omega
    obtain⟨T,hT⟩:=xzE (Kpt fr 9)
    rw[hT] at hm ⊢
    obtain⟨k2,nn2,fu2,V2,h2,c,C2,kc,Q2,ac,pt⟩:=Z6s Hh (T:=T) C hk (R.v9 hk) R.v10 f4 hm
    have k8:73<=k2/\k2<=k:=by
     obtain⟨a1,a2,a3⟩:=id ac
     cases fu2 with
     | false=>have:=a2 rfl; omega
     | true=>have:=a3 rfl; omega
    refine⟨k2,nn2,fu2,V2,h2,?_,C2,kc,⟨fun _ w hw=>?_,pt,Q2.l,fun _=>by omega,fun w=>by have:=Q2.b w; omega⟩,ac,fun p' hne=>?_,k8.2⟩
    ·have e1:Ec k 9=Yo 73:=if_pos hk
     have e2:Ec k2 9=if 73<k2 then Yo 73 else 0:=rfl
     rw[e1,e2]
     exact c
    ·rw[Q2.o 8 oM oM oM oM,R.v8 oM w hw]
     unfold Fh
     rw[if_pos oM,if_pos oM]
    ·unfold Ec
     by_cases x:p'<8
     ·rw[if_pos x,if_pos x,if_pos oM,if_pos oM]
     ·rw[if_neg x,if_neg x]
      by_cases y:p'=8
      ·rw[if_pos y,if_pos y,if_pos oM,if_pos oM]
      ·rw[if_neg y,if_neg y,if_neg hne,if_neg hne]
   ·exact nil (show (if 73<k then Yo 73 else 0)=0 from if_neg hk) (fun T hT=>by
     have e:Kpt fr 9=if fr<=72 then 73 else fr+3:=rfl
     rw[hT,e]
     split<;>omega)
  obtain rfl:p=10:=oM
  exact nil rfl (fun T hT=>by
   have e:Kpt fr 10=200:=rfl
   omega)
end
end Go.Proofs.YteiljiijagmonaaGreatDoor
