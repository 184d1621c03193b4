/- Store.Busy, where no block was given back. -/
import Derived.Test.YtmanipmhebgdbaaGreatDoorStrX
set_option maxRecDepth 100000
set_option maxHeartbeats 4000000
set_option linter.unusedSimpArgs false
set_option linter.unusedVariables false
set_option linter.unusedSectionVars false
namespace Go.Proofs.YtmanipmhebgdbaaGreatDoor
open Go.Ev
noncomputable section
theorem rs365:Tryz.f365.results.toList=[.tmp 2]:=rfl
theorem rs337:Tryz.f337.results.toList=[.tmp 2]:=rfl
theorem rs301:Tryz.f301.results.toList=[.tmp 2]:=rfl
theorem rs355:Tryz.f355.results.toList=[.tmp 4,.tmp 5]:=rfl
theorem rs353:Tryz.f353.results.toList=[.tmp 4]:=rfl
attribute [go_sem] rs365 rs337 rs301 rs355 rs353
def Zu5:Kn1:=fun args h=>match args with
 | [.c (.map m)]=>some (.w (.c (.fn 379 [] [some (h.next,0)])),h.new (.row 1 [[.map m]] false))
 | _=>none
def Z41:Kn1:=fun args h=>match args with
 | [.c (.map m)]=>Y5 (Gg h m) (some (.w (.c .snil),h))
 | _=>none
def Zpn:Kn1:=fun args h=>match args with
 | [.c (.ptr t 0)]=>(Oe h t).bind fun X=>Y5 (Gg h X.fr) (some (.w (.c .snil),h))
 | _=>none
def Z4f:Kn1:=fun args h=>match args with
 | [.c .snil,.c (.int .i64 _)]=>some (.tup [.c (.int .i64 0),.c (.bool false)],h)
 | _=>none
def Ztt:C->Bool
 | .snil=>true
 | _=>false
theorem Zyt {c:C} (e:Ztt c=true):c=.snil:=by
 cases c<;>first|rfl|cases e
def Zf5:Kn1:=fun args h=>match args with
 | [.c (.ptr s 0),.c (.int .i64 _)]=>(Gn h s).bind fun S=>(Oe h S.tx).bind fun X=>Y5 (Gg h X.fr&&Ztt S.bs) (some (.w (.c (.bool false)),bif S.kn then h else h.put s (.row 8 [stL { S with kn:=true }] false)))
 | _=>none
attribute [go_sem] Zu5 Z41 Zpn Z4f Zf5 Ztt
section
variable (Hh:Hearts K Tryz.prog)
include Hh
theorem Zz1 {args:List W} {h h':Hq} {v:V} (e:Zu5 args h=some (v,h')):Zb 365 args h v h':=by
 unfold Zu5 at e
 split at e
 ·cases e
  refine fnG Hh Tryz.f365 ?_
  repeat (first|apply Z6|apply Yc|refine Zo Hh Za Fh ?_)
  exact Zf
 ·cases e
theorem Z42 {args:List W} {h h':Hq} {v:V} (e:Z41 args h=some (v,h')):Zb 337 args h v h':=by
 unfold Z41 at e
 split at e
 ·rename_i m
  obtain⟨b,e⟩:=Zv.1 e
  have hm:=Jg b
  cases e
  refine Zu.tidy ⟨Tryz.f337,Tryz.func337,kR,by decide⟩ fun tidy=>?_
  have l2:=tidy _ _ hm
  refine Dx rfl ?_
  refine Yk Hh Tryz.f337 ?_
  have Jf:=@hm
  repeat (first|apply Z6|apply Yc|refine Zo Hh (EY (EY Za (Zz1 Hh)) (Ti Hh)) Ye ?_)
  exact⟨_,_,Zf,rfl,fun j hj=>by exact Ym⟩
 ·cases e
theorem Zvt {args:List W} {h h':Hq} {v:V} (e:Zpn args h=some (v,h')):Zb 301 args h v h':=by
 unfold Zpn at e
 split at e
 ·rename_i t
  obtain⟨X,ht,e⟩:=Zk e
  have ht:=Yr ht
  obtain⟨b,e⟩:=Zv.1 e
  have hm:=Jg b
  cases e
  refine fnG Hh Tryz.f301 ?_
  have Jf:=Yy @ht @hm
  repeat (first|apply Z6|apply Yt|apply Yc|refine Goes.Zh Ye ?_|refine Zo Hh (EY (EY Za (Be Hh)) (Z42 Hh)) Ye ?_)
  exact Zf
 ·cases e
theorem Zsf {args:List W} {h h':Hq} {v:V} (e:Z4f args h=some (v,h')):Zb 355 args h v h':=by
 unfold Z4f at e
 split at e
 ·cases e
  have lf:=Zdx
  have d0:decide ((0:Int)<0)=false:=rfl
  refine fnG Hh Tryz.f355 ?_
  have Jf:=Yy @lf @d0
  iterate 15 (first|refine Goes.Zh Ut ?_|refine Zo Hh Za Ut ?_|apply gS)
  refine Goes.ops2 fits Hh Za (by
   iterate 25 (refine Zcp Ut ?_)
   exact Zco) ?_
  apply Yc
  exact Zf
 ·cases e
theorem Zz9 {args:List W} {h h':Hq} {v:V} (e:Zf5 args h=some (v,h')):Zb 353 args h v h':=by
 unfold Zf5 at e
 split at e
 ·rename_i s z
  obtain⟨S,hs,e⟩:=Zk e
  have hs:=Y2 hs
  obtain⟨X,ht,e⟩:=Zk e
  have ht:=Yr ht
  obtain⟨b,e⟩:=Zv.1 e
  rw[aQ] at b
  have hm:=Jg b.1
  obtain⟨gd,tx,dt,gv,bs,kn⟩:=S
  have eb:bs=.snil:=Zyt b.2
  subst eb
  have n1:tx≠s:=fun e1=>by simp only[e1] at ht; rw[ht] at hs; cases hs
  have n2:X.fr≠s:=fun e1=>by rw[e1,hs] at hm; cases hm
  have pp:=@H.Zd8
  cases kn with
  | true =>
   cases e
   refine fnG Hh Tryz.f353 ?_
   have Jf:=Ja @hs @ht @hm
   iterate 17 (first|refine Goes.Zh Ye ?_|refine Zo Hh (EY (EY Za (O7 Hh)) (Zsf Hh)) Ye ?_|apply gS)
   exact Zf
  | false =>
   cases e
   refine fnG Hh Tryz.f353 ?_
   have Jf:=Ja @hs @ht @hm
   iterate 26 (first|refine Goes.Zh Zg6 ?_|refine Zo Hh (EY (EY (EY (EY Za (O7 Hh)) (Zvt Hh)) (Zm6 Hh)) (Zsf Hh)) Zg6 ?_|apply gS)
   have Jf:=@pp; exact Zm
 ·cases e
end
section
variable {n q a b c e:Nat} {cr:Cr} {md:Int} {h:Hq} {S T:Lq} {V:Nat->Lq}
theorem HE.busy (M:HE n q a b c e cr md S T V h) (z:Int):∃ h',Zf5 [.c (.ptr (n+13) 0),.c (.int .i64 z)] h=some (.w (.c (.bool false)),h')/\HE n q a b c e cr md S T V h'/\h'.next=h.next/\∀ m,m≠n+13->h'.get m=h.get m:=by
 obtain⟨d,d1,d2,kn,ld,lt,lc,lm,L,fl,sn,ft,fc,t5,vt,t7,t8,t9,tT,see,M⟩:=M
 have MM:=M
 obtain⟨f1,f2,f3,f4,l1,l2,f5,f6,f7,f8,f9,f10,f11,f12,f13,f14,f15,f16,f17,f18,f19,f20,f21⟩:=M
 cases kn with
 | true=>exact⟨h,by unfold Zf5; simp (maxSteps:=9^6) +decide (disch:=first|exact dZ|fail) only [go_sem,Zn,Zi,simprocAttr,f19,f5,f12]<;>rfl,⟨d,d1,d2,true,ld,lt,lc,lm,L,fl,sn,ft,fc,t5,vt,t7,t8,t9,tT,see,MM⟩,rfl,fun _ _=>rfl⟩
 | false =>
  refine⟨h.put (n+13) (.row 8 [stL (stH n q cr true)] false),by unfold Zf5; simp (maxSteps:=9^6) +decide (disch:=first|exact dZ|fail) only [go_sem,Zn,Zi,simprocAttr,f19,f5,f12]<;>rfl,⟨d,d1,d2,true,ld,lt,lc,lm,L,fl,sn,ft,fc,t5,vt,t7,t8,t9,tT,see,?_⟩,rfl,fun m hm=>Ze hm⟩
  have db:=Zig q cr
  refine⟨?_,f2,f3,f4,l1,l2,?_,?_,?_,?_,?_,?_,?_,?_,?_,?_,?_,?_,f17,?_,Zy _ _ _,fun o=>?_,?_⟩
  all_goals (rw[Ze oM]; first|assumption|exact f20 o)
end
open Go.Ev
attribute [go_sem] ty3 sz3 ag3 de3 ze3 ke3 ty4 sz4 ag4 ze4 ty5 sz5 ag5 de5 ze5 by5 ty87 sz87 ag87 de87 ze87 by87 ty137 de137
theorem rs142:Tryz.f142.results.toList=[.tmp 2]:=rfl
theorem rs141:Tryz.f141.results.toList=[.tmp 2]:=rfl
theorem rs65:Tryz.f65.results.toList=[.tmp 4]:=rfl
attribute [go_sem] rs142 rs141 rs65
def b8 (b0 b1 b2 b3 b4 b5 b6 b7:Bool):Nat:=b0.toNat+2 * b1.toNat+4 * b2.toNat+8 * b3.toNat+16 * b4.toNat+32 * b5.toNat+64 * b6.toNat+128 * b7.toNat
theorem Yci:∀ b0 b1 b2 b3 b4 b5 b6 b7:Bool,b8 b0 b1 b2 b3 b4 b5 b6 b7<256:=by decide +kernel
theorem land8:∀ b0 b1 b2 b3 b4 b5 b6 b7:Bool,∀ j:Fin 8,Nat.land (b8 b0 b1 b2 b3 b4 b5 b6 b7) (2 ^ j.1)=if [b0,b1,b2,b3,b4,b5,b6,b7].getD j.1 false=true then 2 ^ j.1 else 0:=by decide +kernel
theorem lor8:∀ b0 b1 b2 b3 b4 b5 b6 b7:Bool,∀ j:Fin 8,Nat.lor (b8 b0 b1 b2 b3 b4 b5 b6 b7) (2 ^ j.1)=b8 (b0 || decide (j.1=0)) (b1 || decide (j.1=1)) (b2 || decide (j.1=2)) (b3 || decide (j.1=3)) (b4 || decide (j.1=4)) (b5 || decide (j.1=5)) (b6 || decide (j.1=6)) (b7 || decide (j.1=7)):=by decide +kernel
def byB (g:Nat->Bool) (t:Nat):Nat:=b8 (g (8 * t)) (g (8 * t+1)) (g (8 * t+2)) (g (8 * t+3)) (g (8 * t+4)) (g (8 * t+5)) (g (8 * t+6)) (g (8 * t+7))
def Ob (g:Nat->Bool):List C:=(List.range 256).map fun t=>C.int .u8 ((byB g t:Nat):Int)
def Tp (g:Nat->Bool) (i:Nat):Nat->Bool:=fun j=>g j || decide (j=i)
theorem Fx (g:Nat->Bool):(Ob g).length=256:=by simp [Ob]
theorem Zfm (g:Nat->Bool) (t:Nat) (h:t<256):(Ob g)[t]? = some (C.int .u8 ((byB g t:Nat):Int)):=by simp [Ob,h]
theorem sel8 (g:Nat->Bool) (i:Nat):[g (8 * (i / 8)),g (8 * (i / 8)+1),g (8 * (i / 8)+2),g (8 * (i / 8)+3),g (8 * (i / 8)+4),g (8 * (i / 8)+5),g (8 * (i / 8)+6),g (8 * (i / 8)+7)].getD (i % 8) false=g i:=by
 have e:=Nat.div_add_mod i 8
 obtain⟨t,ht⟩:=xzE (i / 8)
 rw[ht] at e ⊢
 have hj:i % 8=0\/i % 8=1\/i % 8=2\/i % 8=3\/i % 8=4\/i % 8=5\/i % 8=6\/i % 8=7:=oM
 rcases hj with h|h|h|h|h|h|h|h<;>rw[h] at e ⊢ <;> rw[<-e]<;>rfl
theorem Zh7 (g:Nat->Bool) (i:Nat):Nat.land (byB g (i / 8)) (2 ^ (i % 8))=if g i=true then 2 ^ (i % 8) else 0:=by
 have:=land8 (g (8 * (i / 8))) (g (8 * (i / 8)+1)) (g (8 * (i / 8)+2)) (g (8 * (i / 8)+3)) (g (8 * (i / 8)+4)) (g (8 * (i / 8)+5)) (g (8 * (i / 8)+6)) (g (8 * (i / 8)+7)) ⟨i % 8,oM⟩
 simp only[sel8] at this
 exact this
theorem Z6d (g:Nat->Bool) (i:Nat):Nat.lor (byB g (i / 8)) (2 ^ (i % 8))=byB (Tp g i) (i / 8):=by
 have:=lor8 (g (8 * (i / 8))) (g (8 * (i / 8)+1)) (g (8 * (i / 8)+2)) (g (8 * (i / 8)+3)) (g (8 * (i / 8)+4)) (g (8 * (i / 8)+5)) (g (8 * (i / 8)+6)) (g (8 * (i / 8)+7)) ⟨i % 8,oM⟩
 refine this.trans ?_
 have e:=Nat.div_add_mod i 8
 unfold byB Tp
 have q:∀ k,k<8->decide (i % 8=k)=decide (8 * (i / 8)+k=i):=fun k hk=>by
  rw[decide_eq_decide]
  omega
 have q0:=q 0 oM
 rw[Nat.add_zero] at q0
 simp only[q0,q 1 oM,q 2 oM,q 3 oM,q 4 oM,q 5 oM,q 6 oM,q 7 oM]
theorem Zx7 (g:Nat->Bool) (i t:Nat) (h:t≠i / 8):byB (Tp g i) t=byB g t:=by
 unfold byB Tp
 have q:∀ k,k<8->decide (8 * t+k=i)=false:=fun k hk=>decide_eq_false oM
 have q0:=q 0 oM
 rw[Nat.add_zero] at q0
 simp only[q0,q 1 oM,q 2 oM,q 3 oM,q 4 oM,q 5 oM,q 6 oM,q 7 oM,Bool.or_false]
theorem Zy6 (g:Nat->Bool) (i:Nat) (hi:i<2048):(Ob g).set (i / 8) (.int .u8 ((Nat.lor (byB g (i / 8)) (2 ^ (i % 8)):Nat):Int))=Ob (Tp g i):=by
 refine List.ext_getElem (by simp [Ob]) fun t h1 h2=>?_
 rw[List.getElem_set]
 simp only[Ob,List.getElem_map,List.getElem_range]
 by_cases e:i / 8=t
 ·rw[if_pos e,Z6d,e]
 ·rw[if_neg e,Zx7 _ _ _ (fun x=>e x.symm)]
theorem We (g:Nat->Bool) (t:Nat):byB g t<256:=Yci ..
theorem Zbp (i:Nat):2 ^ (i % 8)<256:=Nat.lt_of_lt_of_le (Nat.pow_lt_pow_right oM (show i % 8<8 by omega)) dM
theorem lor256 {a b:Nat} (ha:a<256) (hb:b<256):Nat.lor a b<256:=Nat.or_lt_two_pow (n:=8) ha hb
theorem land256 {a b:Nat} (ha:a<256):Nat.land a b<256:=Nat.lt_of_le_of_lt Nat.and_le_left ha
section
variable (Hh:Hearts K Tryz.prog)
include Hh
theorem isOk (h:Hq) (i:Nat) (hi:i<2048):Zb 142 [.c (.int .i64 i)] h (.w (.c (.bool true))) h:=by
 refine fnG Hh Tryz.f142 ?_
 iterate 5 (first|apply Z6|apply Yc|refine Zo Hh Za Zf ?_)
 exact Zf
theorem Ztv (h:Hq) (i:Nat):Zb 141 [.c (.int .i64 i)] h (.w (.c (.int .u8 ((2 ^ (i % 8):Nat):Int)))) h:=by
 have r1:Rj .i64 (i:Int) 8=some (.int .i64 ((i % 8:Nat):Int)):=Ff (b:=8) oM
 have s1:Zas .u8 1 ((i % 8:Nat):Int)=some (.int .u8 ((2 ^ (i % 8):Nat):Int)):=by
  have h8:=Zbp i
  unfold Zas
  rw[decide_eq_false oM,cond_false]
  have e:min ((i % 8:Nat):Int).toNat IntKind.u8.bits=i % 8:=by
   show min ((i % 8:Nat):Int).toNat 8=i % 8
   omega
  rw[e,Int.one_mul,Zen ⟨Int.pow_nonneg oM,by exact_mod_cast h8⟩]
  congr 2
 refine fnG Hh Tryz.f141 ?_
 have Jf:=Yy @r1 @s1
 iterate 5 (first|apply Z6|apply Yc|refine Zo Hh Za Zm ?_)
 exact Zm
theorem Z9o (h:Hq) (b i:Nat) (g:Nat->Bool) (hi:i<2048) (hg:g i=false) (hb:h.get b=some (.row 256 [Ob g] false)):Zb 65 [.c (.ptr b 0),.c (.int .i64 i)] h (.w (.c (.bool true))) (h.put b (.row 256 [Ob (Tp g i)] false)):=by
 have c1:=isOk Hh h i hi
 have c2:=Ztv Hh h i
 have q1:Va .i64 (i:Int) 8=some (.int .i64 ((i / 8:Nat):Int)):=Lp (b:=8) oM oM
 have rd:read1 256 [Ob g] (i / 8)=some (.int .u8 ((byB g (i / 8):Nat):Int)):=by
  unfold read1
  rw[Nat.div_eq_of_lt oM,Nat.mod_eq_of_lt oM,List.getElem?_cons_zero]
  exact Zfm g _ oM
 have wr:Z0 256 [Ob g] (i / 8) [.int .u8 ((Nat.lor (byB g (i / 8)) (2 ^ (i % 8)):Nat):Int)]=some [Ob (Tp g i)]:=by
  simp only[Z0]
  rw[Nat.div_eq_of_lt oM,Nat.mod_eq_of_lt oM,List.getElem?_cons_zero]
  simp only[Fx]
  rw[Zb5 oM,cond_true,Zy6 g i hi]
  rfl
 have l1:Db .u8 Nat.land ((byB g (i / 8):Nat):Int) ((2 ^ (i % 8):Nat):Int)=.int .u8 ((0:Nat):Int):=by
  rw[Zv7 (We _ _) (Zbp _) (land256 (We _ _)),Zh7,hg]
  rfl
 have l2:Db .u8 Nat.lor ((byB g (i / 8):Nat):Int) ((2 ^ (i % 8):Nat):Int)=.int .u8 ((Nat.lor (byB g (i / 8)) (2 ^ (i % 8)):Nat):Int):=Zv7 (We _ _) (Zbp _) (lor256 (We _ _) (Zbp _))
 refine fnG Hh Tryz.f65 ?_
 have Jf:=Nk @q1 @rd @wr @l1 @l2 @hb
 iterate 4 (first|apply Z6|refine Zo Hh Za Zm ?_)
 iterate 4 (first|apply Z6|apply Yt|refine Goes.Zh Zm ?_|refine F7 Hh (Zj (Zj Za c1) c2) Zda ?_)
 iterate 4 (first|apply Z6|apply Yc|refine Zo Hh (Zj Za c2) Zm ?_|refine F7 Hh (Zj Za c2) Zda ?_)
 exact Zm
end
open Go.Ev
theorem Ni {sz k j:Nat} {L:List (List C)} {x:List C} {c:C} (hx:L[k]? = some x) (xl:x.length=sz) (hj:j<sz):Z0 sz L (k * sz+j) [c]=some (L.set k (x.set j c)):=by
 have e1:(k * sz+j) / sz=k:=by rw[Nat.mul_comm,Nat.mul_add_div oM,Nat.div_eq_of_lt hj,Nat.add_zero]
 have e2:(k * sz+j) % sz=j:=by rw[Nat.mul_comm,Nat.mul_add_mod,Nat.mod_eq_of_lt hj]
 simp only[Z0,e1,e2,hx]
 rw[Zb5 oM,cond_true]
def Zcm (g:Nat->Bool):Lq:=(List.range 256).map (byB g)
theorem Zp9 (g:Nat->Bool):(Zcm g).length=256:=by simp [Zcm]
theorem Zh5 (g:Nat->Bool):Ob g=pgL (Zcm g):=by
 unfold Ob pgL Zcm
 rw[List.map_map]
 refine List.map_congr_left fun t _=>?_
 show C.int .u8 ((byB g t:Nat):Int)=.int .u8 ((byB g t % 256:Nat):Int)
 rw[Nat.mod_eq_of_lt (We g t)]
def Ze2 (D:List O9):Lq:=Fb (Md D 0 Bo)
theorem Zdg (D:List O9):(Ze2 D).length=256:=by unfold Ze2; rw[Fb,Yi,Zid]; exact Zpu
def Des (V:Nat->Lq) (a b c:Nat) (D:List O9):Prop:=goodD (V 1) a b c=true/\Dj (V 1) a 0=D/\D.length=a
def q63 (p:Lq):Code:=piece p (J7 Tryz.f63)
theorem rs63:Tryz.f63.results.toList=[.tmp 6]:=rfl
attribute [go_sem] rs63
section
variable (Hh:Hearts K Tryz.prog)
include Hh
theorem Zyl (g:Nat->Bool) {p t u:Nat} (tu:t<=u) (u2:u<=2048) (ht:t<u->g t=false) {h:Hq} (hp:h.get p=some (.row 256 [Ob g] false)):∀ (k i:Nat) (ts:Zx),i+k=t->(∀ j,i<=j->j<t->g j=true)->Zg ts 3=.w (.c (.ptr p 0))->Zg ts 2=.w (.c (.int .i64 (u:Int)))->Zg ts 7=.w (.c (.int .i64 (i:Int))) ->
  Z8 27 none (q63 [1,1,0,1,2]) [] ts h fun x ds' ts' h'=>((t<u/\x=.ret/\Zg ts' 6=.w (.c (.int .i64 (t:Int))))\/(t=u/\x=.exit 0))/\ds'=[]/\h'=h:=by
 intro k
 induction k with
 | zero =>
  intro i ts hi _ t3 t2 t7
  obtain rfl:i=t:=oM
  rcases Nat.lt_or_ge i u with lt|ge
  ·have gi:=ht lt
   have cm:=fun h=>Ztv Hh h i
   have q1:Va .i64 (i:Int) 8=some (.int .i64 ((i / 8:Nat):Int)):=Lp (b:=8) oM oM
   have rd:read1 256 [Ob g] (i / 8)=some (.int .u8 ((byB g (i / 8):Nat):Int)):=by
    unfold read1
    rw[Nat.div_eq_of_lt oM,Nat.mod_eq_of_lt oM,List.getElem?_cons_zero]
    exact Zfm g _ oM
   have l1:Db .u8 Nat.land ((byB g (i / 8):Nat):Int) ((2 ^ (i % 8):Nat):Int)=.int .u8 ((0:Nat):Int):=by
    rw[Zv7 (We _ _) (Zbp _) (land256 (We _ _)),Zh7,gi]
    rfl
   have Jf:=Lc @t2 @t3 @t7 @hp @q1 @rd @l1
   iterate 9 (first|refine Goes.Zh Zm ?_|refine Zo Hh Za Zm ?_|apply gS)
   iterate 5 (first|refine Goes.Zh Zm ?_|refine Zo Hh (Y4 Za cm) Zm ?_|refine F7 Hh (Y4 Za cm) Zda ?_|apply gS)
   refine⟨.inl ⟨lt,rfl,?_⟩,rfl,rfl⟩
   exact Zm
  ·obtain rfl:i=u:=oM
   have Jf:=Yy @t2 @t7
   iterate 6 (first|refine Goes.Zh Zm ?_|refine Zo Hh Za Zm ?_|apply gS)
   exact⟨.inr ⟨rfl,rfl⟩,rfl,rfl⟩
 | succ k ih =>
  intro i ts hi all t3 t2 t7
  have gi:=all i oM oM
  have cm:=fun h=>Ztv Hh h i
  have q1:Va .i64 (i:Int) 8=some (.int .i64 ((i / 8:Nat):Int)):=Lp (b:=8) oM oM
  have rd:read1 256 [Ob g] (i / 8)=some (.int .u8 ((byB g (i / 8):Nat):Int)):=by
   unfold read1
   rw[Nat.div_eq_of_lt oM,Nat.mod_eq_of_lt oM,List.getElem?_cons_zero]
   exact Zfm g _ oM
  have p1:0<2 ^ (i % 8):=Nat.pow_pos oM
  have e1:(((2 ^ (i % 8):Nat):Int) == 0)=false:=D7 (by exact_mod_cast (Nat.pos_iff_ne_zero.1 p1))
  have l1:Db .u8 Nat.land ((byB g (i / 8):Nat):Int) ((2 ^ (i % 8):Nat):Int)=.int .u8 ((2 ^ (i % 8):Nat):Int):=by
   rw[Zv7 (We _ _) (Zbp _) (land256 (We _ _)),Zh7,gi]
   rfl
  have Jf:=Nl @t2 @t3 @t7 @hp @q1 @rd @l1 @e1
  iterate 9 (first|refine Goes.Zh Zm ?_|refine Zo Hh Za Zm ?_|apply gS)
  iterate 4 (first|refine Goes.Zh Zm ?_|refine Zo Hh (Y4 Za cm) Zm ?_|refine F7 Hh (Y4 Za cm) Zda ?_|apply gS)
  show Z8 27 none (q63 [1,1,0,1,2]) _ _ _ _
  refine ih (i+1) _ oM (fun j h1 h2=>all j oM h2) ?_ ?_ ?_
  ·have Jf:=@t3; exact Zm
  ·have Jf:=@t2; exact Zm
  ·exact Zf
theorem Z13 (g:Nat->Bool) {s t u:Nat} (st:s<=t) (tu:t<=u) (u2:u<=2048) (all:∀ j,s<=j->j<t->g j=true) (ht:t<u->g t=false) (h:Hq):Zb 63 [.g (Ob g),.c (.int .i64 (s:Int)),.c (.int .i64 (u:Int))] h (.w (.c (.int .i64 (if t<u then (t:Int) else -1)))) h:=by
 have mx:max (s:Int) 0=(s:Int):=oM
 have mn:min (u:Int) 2048=(u:Int):=oM
 have mi:¬(2048<(u:Int)):=oM
 have mj:¬((s:Int)<0):=oM
 have pl:=Fx g
 have lp:=fun (h:Hq) (p:Nat) hp=>Zyl Hh g tu u2 ht (h:=h) (p:=p) hp (t - s) s
 obtain⟨G,hG⟩:=xzE (Ob g)
 rw[hG] at pl ⊢
 simp only[hG] at lp
 refine Dx rfl ?_
 refine Yk Hh Tryz.f63 ?_
 iterate 8 (first|(apply Goes.ops2 fits Hh Za; · simp (maxSteps:=9^6) +decide (disch:=first|exact dZ|fail) only [go_sem,Zi,simprocAttr,mx,mn,mi,mj,pl,if_neg,if_false,Zt,Yx,read1]<;>rfl)|apply gS)
 refine (lp _ h.next ?_ _ oM all ?_ ?_ ?_).mono ?_
 ·have Jf:=@pl; exact Zr
 ·exact Yn
 ·simp (maxSteps:=9^6) +decide (disch:=first|exact dZ|fail) only [go_sem,Zi,simprocAttr,mx,mn,mi,mj,if_neg,if_false]<;>rfl
 ·simp (maxSteps:=9^6) +decide (disch:=first|exact dZ|fail) only [go_sem,Zi,simprocAttr,mx,mn,mi,mj,if_neg,if_false]<;>rfl
 rintro x ds' ts' h' ⟨hx,rfl,rfl⟩
 rcases hx with ⟨lt,rfl,t6⟩|⟨rfl,rfl⟩
 ·rw[if_pos lt]
  exact⟨_,_,(by have Jf:=@t6; exact Zm),rfl,fun m hm=>by exact Ym⟩
 ·rw[if_neg (Nat.lt_irrefl _)]
  iterate 3 (first|refine Zo Hh Za Zf ?_|apply gS)
  exact⟨_,_,Zf,rfl,fun m hm=>by exact Ym⟩
end
theorem rs323:Tryz.f323.results.toList=[.tmp 2]:=rfl
theorem rs281:Tryz.f281.results.toList=[.tmp 2]:=rfl
theorem rs282:Tryz.f282.results.toList=[.tmp 2,.tmp 3]:=rfl
theorem rs318:Tryz.f318.results.toList=[.tmp 4]:=rfl
theorem rs319:Tryz.f319.results.toList=[.tmp 6]:=rfl
theorem rs283:Tryz.f283.results.toList=[.tmp 10]:=rfl
theorem rs320:Tryz.f320.results.toList=[]:=rfl
attribute [go_sem] rs323 rs281 rs282 rs318 rs319 rs283 rs320
def Zuq:Kn1:=fun args h=>match args with
 | [.c (.ptr s 0)]=>(Gn h s).bind fun S=>(Dz h S.gd).bind fun _=>some (.w (.c (.int .i64 0)),h)
 | _=>none
def Zur:Kn1:=fun args h=>match args with
 | [.c (.ptr s 0)]=>(Gn h s).bind fun S=>(Dz h S.gd).bind fun _=>(Oe h S.tx).bind fun X=>Y5 X.op (some (.w (.c (.int .i64 0)),h))
 | _=>none
def Zkc:Kn1:=fun args h=>match args with
 | [.g [a,b,c,d],.c z]=>some (.w (.c (.fn 352 [] [some (h.next,0),some (h.next+1,0)])),(h.new (.row 4 [[a,b,c,d]] false)).new (.row 1 [[z]] false))
 | _=>none
attribute [go_sem] Zuq Zur Zkc
section
variable (Hh:Hearts K Tryz.prog)
include Hh
theorem Zzw {args:List W} {h h':Hq} {v:V} (e:Zuq args h=some (v,h')):Zb 323 args h v h':=by
 unfold Zuq at e
 split at e
 ·rename_i s
  obtain⟨S,hs,e⟩:=Zk e
  have hs:=Y2 hs
  obtain⟨G,hg,e⟩:=Zk e
  obtain⟨hg,fb⟩:=Jj hg
  cases e
  refine fnG Hh Tryz.f323 ?_
  repeat (first|apply Z6|apply Yt|apply Yc|((first|apply Goes.Zh|apply Goes.ops2 fits Hh (EY (EY Za (J4 Hh)) (Gh Hh))); · simp (maxSteps:=9^6) +decide (disch:=first|exact dZ|fail) only [go_sem,Zn,Zi,simprocAttr,hs,hg,gdL,fb,Jt]<;>rfl))
  exact Zf
 ·cases e
theorem Zzx {args:List W} {h h':Hq} {v:V} (e:Zur args h=some (v,h')):Zb 281 args h v h':=by
 unfold Zur at e
 split at e
 ·rename_i s
  obtain⟨S,hs,e⟩:=Zk e
  have hs:=Y2 hs
  obtain⟨G,hg,e⟩:=Zk e
  obtain⟨hg,fb⟩:=Jj hg
  obtain⟨X,ht,e⟩:=Zk e
  have ht:=Yr ht
  obtain⟨bo,e⟩:=Zv.1 e
  cases e
  refine fnG Hh Tryz.f281 ?_
  repeat (first|apply Z6|apply Qv|apply Yt|apply Yc|((first|apply Goes.Zh|apply Goes.ops2 fits Hh (EY (EY (EY Za (Zzw Hh)) (Xy Hh)) (Za3 Hh))); · simp (maxSteps:=9^6) +decide (disch:=first|exact dZ|fail) only [go_sem,Zn,Zi,simprocAttr,hs,ht,hg,gdL,fb,bo]<;>rfl)|simp +decide only [reduceIte])
  exact Zf
 ·cases e
theorem Zse {args:List W} {h h':Hq} {v:V} (e:Zkc args h=some (v,h')):Zb 318 args h v h':=by
 unfold Zkc at e
 split at e
 ·cases e
  refine fnG Hh Tryz.f318 ?_
  repeat (first|apply Z6|apply Yc|((first|apply Goes.Zh|apply Goes.ops2 fits Hh Za); · simp (maxSteps:=9^6) +decide (disch:=first|exact dZ|fail) only [go_sem,Zn,Zi,simprocAttr,Yx,Zc6,S9,ptrs]<;>rfl))
  exact Zf
 ·cases e
variable {n q a b c e:Nat} {cr:Cr} {md:Int} {S T:Lq} {V:Nat->Lq} {h:Hq}
theorem Z50 (f:Yw a b c e=true) (M:HE n q a b c e cr md S T V h) {D:List O9} (dd:Des V a b c D) :
  ∃ h' p,Zb 282 [.c (.ptr (n+13) 0)] h (.tup [.c (.slice p 0 a 3),.c (.int .i64 0)]) h'/\HE n q a b c e cr md S T V h'/\Kr n q h h'/\h.next<=p/\p<h'.next/\h'.get p=some (.row 3 (D.map Uy) false):=by
 obtain⟨g1,g2,g3,g4,g5,g6,g7,g8,g9,g10,g11⟩:=Z5 f
 obtain⟨gd,td,Dl⟩:=dd
 obtain⟨hG,e1,MG,nG,rG⟩:=M.get f (z:=1) (Xj a b c e) oM
 have c1:Zb 34 [.c (.ptr (n+13) 0),.c (.int .i64 1)] h (.tup [.g (pgL (V 1)),.c (.int .i64 0)]) hG:=Dp Hh e1
 have Yl:(pgL (V 1)).length=256:=by rw[J3]; exact M.len (z:=1) (Xj a b c e) oM
 have bd:=Ze0 (V 1)
 have gd':goodD (unN (pgL (V 1))) a b c=true:=by rw[Gp,Rz]; exact gd
 have td':Dj (unN (pgL (V 1))) a 0=D:=by rw[Gp,N9]; exact td
 obtain⟨Y,hY⟩:=xzE (pgL (V 1))
 rw[hY] at c1 Yl bd gd' td'
 obtain⟨nq,nx,n0⟩:=M.nx
 obtain⟨st,⟨kn,hs⟩,⟨dk,gl⟩,ht⟩:=MG.cells
 obtain⟨st0,⟨kn0,hs0⟩,⟨dk0,gl0⟩,ht0⟩:=M.cells
 unfold gdL gdD at gl gl0
 obtain⟨v,h',cc,p,rfl,M',hk,p1,p2,p3⟩:∃ v h',Zb 282 [.c (.ptr (n+13) 0)] h v h'/\∃ p,v=.tup [.c (.slice p 0 a 3),.c (.int .i64 0)]/\HE n q a b c e cr md S T V h'/\Kr n q h h'/\h.next<=p/\p<h'.next/\h'.get p=some (.row 3 (D.map Uy) false):=by
  refine Yk Hh Tryz.f282 ?_
  have Jf:=Ja @f @st (Yu @hs @gl @hs0 @gl0 @Yl @bd @gd' @td' @Dl)
  iterate 3 (first|refine Zo Hh Za O0 ?_|apply gS)
  iterate 7 (first|refine Goes.Zh O0 ?_|refine Zo Hh (Zj Za c1) O0 ?_|apply gS)
  iterate 2 (first|refine F7 Hh (EY (EY Za (J4 Hh)) (Zxj Hh)) Zp7 ?_|apply gS)
  refine⟨_,_,Yn,_,rfl,MG.keep ?_ (fun m hm=>?_),⟨?_,fun m hm hne=>?_⟩,?_,?_,?_⟩
  ·first|omega|(simp only[H.Zd,H.Zc]<;>omega)
  ·exact Ym
  ·first|omega|(simp only[H.Zd,H.Zc]<;>omega)
  ·refine Eq.trans ?_ (rG m hm hne); exact Ym
  ·first|omega|(simp only[H.Zd,H.Zc]<;>omega)
  ·first|omega|(simp only[H.Zd,H.Zc]<;>omega)
  ·exact Yn
 exact⟨h',p,cc,M',hk,p1,p2,p3⟩
theorem Z06 (f:Yw a b c e=true) (M:HE n q a b c e cr md S T V h) {g:Nat->Bool} {t:Nat} (low:∀ j,2+c / 4<=j->j<t->g j=true) (t0:2+c / 4<=t) (tb:t<=b) (gt:t<b->g t=false) {s:Nat} (sl:s<=4096) :
  ∃ h',Zb 319 [.c (.ptr (n+13) 0),.c (.int .i64 (s:Int)),.g (Ob g)] h (.w (.c (.int .i64 (if t<b then (t:Int) else -1)))) h'/\HE n q a b c e cr md S T V h'/\h.next<=h'.next/\∀ m,m<h.next->m≠n+13->h'.get m=h.get m:=by
 obtain⟨g1,g2,g3,g4,g5,g6,g7,g8,g9,g10,g11⟩:=Z5 f
 obtain⟨nq,nx,n0⟩:=M.nx
 obtain⟨st,⟨kn,hs⟩,⟨dk,gl⟩,ht⟩:=M.cells
 unfold gdL gdD at gl
 have pl:(Ob g).length=256:=Fx _
 have cF:=Z13 Hh g (s:=2+c / 4) (t:=t) (u:=b) t0 tb oM low gt
 have q4:Va .i64 (c:Int) 4=some (.int .i64 ((c / 4:Nat):Int)):=Lp (b:=4) oM oM
 have e2:(2:Int)+((c / 4:Nat):Int)=((2+c / 4:Nat):Int):=rfl
 have d0:decide (((2+c / 4:Nat):Int)<(b:Int))=true:=decide_eq_true oM
 obtain⟨y,hy⟩:=xzE (2+c / 4)
 rw[hy] at cF e2 d0 t0
 obtain⟨B,hB⟩:=xzE (Ob g)
 rw[hB] at pl cF ⊢
 obtain⟨z,hz⟩:=xzE ((if t<b then (t:Int) else -1))
 rw[hz] at cF ⊢
 refine O1 ?_
 by_cases tl:t<b
 ·obtain rfl:z=(t:Int):=by rw[<-hz,if_pos tl]
  have es:(s:Int)+(t:Int)=((s+t:Nat):Int):=rfl
  refine Yk Hh Tryz.f319 ?_
  have Jf:=Nl @f @hs @gl @pl @q4 @e2 @d0 @es
  iterate 17 (first|refine Goes.Zh Us ?_|refine Zo Hh (EY Za (J4 Hh)) Us ?_|apply gS)
  iterate 7 (first|refine Goes.Zh Us ?_|refine Zo Hh (Y4 Za cF) Us ?_|apply gS)
  refine Jo fun hA eA=>?_
  have nA:hA.next=h.next+2:=nxQ eA
  have kA:∀ m,m<h.next->hA.get m=h.get m:=kQ eA
  clear eA
  have MA:=M.keep (h2:=hA) oM (fun m hm=>kA m oM)
  obtain⟨hC,e8,MC,nC,rC⟩:=MA.busy ((s+t:Nat):Int)
  have c8:=Zz9 Hh e8
  iterate 5 (first|refine Goes.Zh Us ?_|refine Zo Hh (Zj Za c8) Us ?_|apply gS)
  exact⟨_,_,Zf,rfl,MC,oM,fun m hm hne=>(rC m hne).trans (kA m hm)⟩
 ·obtain rfl:z = -1:=by rw[<-hz,if_neg tl]
  refine Yk Hh Tryz.f319 ?_
  have Jf:=Lc @f @hs @gl @pl @q4 @e2 @d0
  iterate 17 (first|refine Goes.Zh Us ?_|refine Zo Hh (EY Za (J4 Hh)) Us ?_|apply gS)
  iterate 8 (first|refine Goes.Zh Us ?_|refine Zo Hh (Y4 Za cF) Us ?_|apply gS)
  refine⟨_,_,Zf,rfl,M.keep ?_ (fun m hm=>?_),?_,fun m hm hne=>?_⟩
  ·first|omega|(simp only[H.Zd,H.Zc]<;>omega)
  ·exact Ym
  ·first|omega|(simp only[H.Zd,H.Zc]<;>omega)
  ·exact Ym
theorem Z54 {p k:Nat} {D:List O9} {x y w:Nat} {h:Hq} (hp:h.get p=some (.row 3 (D.map Uy) false)) (hk:D[k]? = some (x,y,w)) (x1:1<=x) (x2:x<4096):Zb 320 [.c (.ptr p (k * 3))] h (.tup []) (h.put p (.row 3 ((D.set k (x - 1,y,w)).map Uy) false)):=by
 have hr:(D.map Uy)[k]? = some [.int .i64 (x:Int),.int .i64 (y:Int),.int .i64 (w:Int)]:=by rw[List.getElem?_map,hk]; rfl
 have r1:read1 3 (D.map Uy) (k * 3)=some (.int .i64 (x:Int)):=Dh (sz:=3) (j:=0) oM hr
 have w1:Z0 3 (D.map Uy) (k * 3) [.int .i64 ((x:Int) - 1)]=some ((D.map Uy).set k [.int .i64 ((x:Int) - 1),.int .i64 (y:Int),.int .i64 (w:Int)]):=Ni (j:=0) hr rfl oM
 have fin:(D.map Uy).set k [.int .i64 ((x:Int) - 1),.int .i64 (y:Int),.int .i64 (w:Int)]=(D.set k (x - 1,y,w)).map Uy:=by
  rw[List.map_set]
  congr 1
  show _=[C.int .i64 ((x - 1:Nat):Int),.int .i64 (y:Int),.int .i64 (w:Int)]
  rw[show ((x - 1:Nat):Int)=(x:Int) - 1 by omega]
 obtain⟨Z,hZ⟩:=xzE (D.map Uy)
 rw[hZ] at hp r1 w1 fin
 refine fnG Hh Tryz.f320 ?_
 have Jf:=J6 @hp @r1 @w1 @Nat.add_zero
 repeat (first|refine Zo Hh Za Zm ?_)
 have Jf:=@fin; exact Zm
variable [Opn cr]
theorem Z05 (f:Yw a b c e=true) (M:HE n q a b c e cr md S T V h) {k:Nat} (ka:k<a) (s2:1∈S/\1 ∉ T) (s3:2+e+k * b∈S/\2+e+k * b ∉ T) {nb:Lq} (nbl:nb.length=256)
  {F pD:Nat} {D D':List O9} (hp:h.get pD=some (.row 3 (D.map Uy) false)) (Dl:D.length=a) (Dl':D'.length=a) (Dm:D'.all (Zb1 (b - 2 - c / 4) c)=true) (pl:pD<h.next) (p32:q+9<=pD)
  (hF:∀ h2,h2.get pD=some (.row 3 (D.map Uy) false)->Zb F [.c (.ptr pD (k * 3))] h2 (.tup []) (h2.put pD (.row 3 (D'.map Uy) false))) :
  ∃ h',Zb 283 [.c (.ptr (n+13) 0),.c (.int .i64 (k:Int)),.g (pgL nb),.c (.slice pD 0 a 3),.c (.fn F [] [])] h (.w (.c (.int .i64 0))) h'/\HE n q a b c e cr md S T (Gf (Gf V (2+e+k * b) nb) 1 (Ze2 D')) h'/\h.next<=h'.next/\∀ m,m<h.next->Out n q m->m≠pD->h'.get m=h.get m:=by
 obtain⟨g1,g2,g3,g4,g5,g6,g7,g8,g9,g10,g11⟩:=Z5 f
 have st:=Da (b:=b) ka
 obtain⟨zb,hb⟩:∃ z,2+e+k * b=z:=⟨_,rfl⟩
 rw[hb] at s3 ⊢
 have zbl:zb<2+e+a * b:=oM
 have ob:=Dc (z:=zb) (Z5 f) oM zbl
 obtain⟨nq,nx,n0⟩:=M.nx
 have bl:(pgL nb).length=256:=by rw[J3,nbl]
 have hB1:=fun {h:Hq} (M:HE n q a b c e cr md S T V h)=>M.put f ob zbl nbl s3.1 s3.2
 have hB2:=fun {V:Nat->Lq} {h:Hq} (M:HE n q a b c e cr md S T V h)=>M.put f (z:=1) (Xj a b c e) oM (Zdg D') s2.1 s2.2
 obtain⟨mB,hmB⟩:∃ x,pgL nb=x:=⟨_,rfl⟩
 obtain⟨Y,hY⟩:=xzE (pgL (Ze2 D'))
 have Yl:Y.length=256:=by rw[<-hY,J3,Zdg]
 have hY':pgL (Fb (Md D' 0 Bo))=Y:=hY
 rw[hmB] at bl ⊢
 simp only[hmB] at hB1
 simp only[hY] at hB2
 refine O1 ?_
 refine Yk Hh Tryz.f283 ?_
 have Jf:=J6 @f @hb @bl @Nat.zero_add
 iterate 3 (first|refine Zo Hh Za Gj ?_|apply gS)
 refine Jo fun hA eA=>?_
 have nA:hA.next=h.next+1:=nxQ eA
 have kA:∀ m,m<h.next->hA.get m=h.get m:=kQ eA
 have bA:hA.get h.next=some (.row 256 [mB] false):=by rw[eA]; exact Zr
 clear eA
 have MA:=M.keep (h2:=hA) oM (fun m hm=>kA m oM)
 obtain⟨_,⟨knA,hsA⟩,⟨dkA,glA⟩,_⟩:=MA.cells
 unfold gdL gdD at glA
 obtain⟨hB,e1,MB,nB,kB⟩:=hB1 MA
 have c1:=L8 Hh e1
 have Jf:=G6 Jf @nA @bA @hsA @glA
 iterate 3 (first|refine Zo Hh (EY (EY Za (J4 Hh)) (Mr Hh)) Gj ?_|apply gS)
 iterate 6 (first|refine Goes.Zh Gj ?_|refine Zo Hh (Zj Za c1) Gj ?_|apply gS)
 have pB:=(kB pD ⟨oM,oM,oM,oM,oM⟩).trans ((kA _ pl).trans hp)
 have c2:=hF hB pB
 iterate 2 (first|refine Zo Hh (Zj Za c2) Gj ?_|apply gS)
 refine Jo fun hC eC=>?_
 have nC:hC.next=h.next+1:=by rw[eC,H.Zd,nB,nA]
 have kC:∀ m,m<h.next+1->Out n q m->m≠pD->hC.get m=hA.get m:=fun m hm ho hne=>by rw[eC,Ze hne]; exact kB m ho.1
 have pC:hC.get pD=some (.row 3 (D'.map Uy) false):=by rw[eC,Zy]
 have MC:=MB.keep (h2:=hC) (by rw[eC,H.Zd]; omega) (fun m hm=>by rw[eC,Ze oM])
 clear eC
 obtain⟨stC,⟨knC,hsC⟩,⟨dkC,glC⟩,_⟩:=MC.cells
 unfold gdL gdD at glC
 have Jf:=Yy Jf (Yu @nC @pC @hsC @glC @stC @Dl' @Dm @hY' @Yl)
 iterate 7 (first|refine Goes.Zh Gj ?_|refine Zo Hh (EY (EY Za (J4 Hh)) (Zxk Hh)) Gj ?_|apply gS)
 refine Jo fun hD eD=>?_
 have nD:hD.next=h.next+2:=by rw[eD]; simp only[H.Zd,H.Zc,nC]
 have kD:∀ m,m<h.next+1->Out n q m->m≠pD->hD.get m=hA.get m:=fun m hm ho hne=>by rw[eD]; refine Eq.trans ?_ (kC m hm ho hne); exact Ym
 have bD:hD.get (h.next+1)=some (.row 256 [Y] false):=by rw[eD,<-nC]; exact Zr
 have MD:=MC.keep (h2:=hD) oM (fun m hm=>by rw[eD]; have:=MC.nx; exact Ym)
 clear eD
 obtain⟨hE,e3,ME,nE,kE⟩:=hB2 MD
 have c3:=L8 Hh e3
 have Jf:=Yy Jf @bD
 iterate 2 (first|refine Zo Hh (Zj Za c3) Gj ?_|apply gS)
 exact⟨_,_,Yn,rfl,ME,oM,fun m hm ho hne=>(kE m ho.1).trans ((kD m oM ho hne).trans (kA m hm))⟩
end
def q270 (p:Lq):Code:=piece p (J7 Tryz.f270)
theorem Zoy:q270 [1,1,1,1,0,1,2]=.rangeFunc (.tmp 32) #[33] (q270 [1,1,1,1,0,1,2,5]) (q270 [1,1,1,1,0,1,2,6]):=kR
theorem Zcb:q270 [1,1,1,1,0,1,2,5]=.region 8 (Z7x (q270 [1,1,1,1,0,1,2,5])) false:=kR
theorem Zcc:q270 [1,1,1,1,0,1,2,6]=.block 1 (q270 [1,1,1,1,0,1,2,6,2]):=kR
def q352 (p:Lq):Code:=piece p (J7 Tryz.f352)
theorem rs270:Tryz.f270.results.toList=[.cell 4 3,.cell 5 31]:=rfl
theorem rs352:Tryz.f352.results.toList=[]:=rfl
attribute [go_sem] rs270 rs352
theorem rd1 (c:C):read1 1 [[c]] 0=some c:=rfl
structure Bmp (a b c e:Nat) (V:Nat->Lq) (D:List O9) (g:Nat->Nat->Bool):Prop where
 bm:∀ k,k<a->V (2+e+k * b)=Zcm (g k)
 des:Des V a b c D
 may:D.all (Zb1 (b - 2 - c / 4) c)=true
def Zlg (b c:Nat) (g:Nat->Bool):Prop:=∀ j,2+c / 4<=j->j<b->g j=true
structure FreeG (b c:Nat) (D:List O9) (g:Nat->Nat->Bool) (k t x y w:Nat):Prop where
 t0:2+c / 4<=t
 tb:t<b
 low:∀ j,2+c / 4<=j->j<t->g k j=true
 gt:g k t=false
 hk:D[k]? = some (x,y,w)
 x1:1<=x
def Zle (b e:Nat) (V:Nat->Lq) (D:List O9) (g:Nat->Nat->Bool) (k t x y w:Nat):Nat->Lq:=Gf (Gf V (2+e+k * b) (Zcm (Tp (g k) t))) 1 (Ze2 (D.set k (x - 1,y,w)))
structure TCb (n q a b c e:Nat) (cr:Cr) (md:Int) (S T:Lq) (V:Nat->Lq) (D:List O9) (l p2 p4 p5 p7 pD:Nat) (ts:Zx) (h:Hq):Prop where
 M:HE n q a b c e cr md S T V h
 e2:Zg ts 2=.w (.c (.ptr p2 0))
 e4:Zg ts 4=.w (.c (.ptr p4 0))
 e5:Zg ts 5=.w (.c (.ptr p5 0))
 e7:Zg ts 7=.w (.c (.ptr p7 0))
 c2:h.get p2=some (.row 1 [[.ptr (n+13) 0]] false)
 c4:h.get p4=some (.row 1 [[.int .i64 0]] false)
 c5:h.get p5=some (.row 1 [[.int .i64 0]] false)
 c7:h.get p7=some (.row 1 [[.slice pD 0 a 3]] false)
 cD:h.get pD=some (.row 3 (D.map Uy) false)
 b2:q+9<=p2/\p2<h.next
 b4:q+9<=p4/\p4<h.next
 b5:q+9<=p5/\p5<h.next
 b7:q+9<=p7/\p7<h.next
 bD:q+9<=pD/\pD<h.next
 bl:q+9<=l/\l<h.next
 n1:p2≠pD/\p4≠pD/\p5≠pD/\p7≠pD/\l≠pD
 n2:p4≠p5/\p2≠p4/\p2≠p5/\p7≠p4/\p7≠p5
 n3:l≠p2/\l≠p4/\l≠p5/\l≠p7
theorem TCb.keep {n q a b c e:Nat} {cr:Cr} {md:Int} {S T:Lq} {V:Nat->Lq} {D:List O9} {l p2 p4 p5 p7 pD:Nat} {ts:Zx} {h h2:Hq} (C:TCb n q a b c e cr md S T V D l p2 p4 p5 p7 pD ts h) (M2:HE n q a b c e cr md S T V h2) (nx:h.next<=h2.next) (k:∀ m,m<h.next->q+9<=m->m≠l->h2.get m=h.get m):TCb n q a b c e cr md S T V D l p2 p4 p5 p7 pD ts h2:=by
 obtain⟨M,e2,e4,e5,e7,c2,c4,c5,c7,cD,b2,b4,b5,b7,bD,bl,n1,n2,n3⟩:=C
 exact⟨M2,e2,e4,e5,e7,(k _ b2.2 b2.1 (Ne.symm n3.1)).trans c2,(k _ b4.2 b4.1 (Ne.symm n3.2.1)).trans c4,(k _ b5.2 b5.1 (Ne.symm n3.2.2.1)).trans c5,(k _ b7.2 b7.1 (Ne.symm n3.2.2.2)).trans c7,(k _ bD.2 bD.1 (Ne.symm n1.2.2.2.2)).trans cD,⟨b2.1,oM⟩,⟨b4.1,oM⟩,⟨b5.1,oM⟩,⟨b7.1,oM⟩,⟨bD.1,oM⟩,⟨bl.1,oM⟩,n1,n2,n3⟩
section
variable (Hh:Hearts K Tryz.prog)
include Hh
variable {n q a b c e:Nat} {cr:Cr} [Opn cr] {md:Int} {S T:Lq} {V:Nat->Lq} {D:List O9} {g:Nat->Nat->Bool} {l p2 p4 p5 p7 pD d:Nat} {ts:Zx} {h:Hq}
theorem btA (l:Nat) (ts:Zx) (k:Nat) (h:Hq):Z8 75 (some l) (q270 [1,1,1,1,0,1,2,5]) [] (ts.set 33 (.w (.c (.int .i64 (k:Int))))) h fun x ds' ts' h'=>x=.normal/\ds'=[]/\(∀ s,s<=8->Zg ts' s=Zg ts s)/\Zg ts' 9=.w (.c (.int .i64 (k:Int)))/\h'=h:=by
 refine Zo Hh Za Zf ?_
 refine⟨rfl,rfl,fun s hs=>?_,?_,rfl⟩
 ·simp (decide:=true) only [Y6 hs]
 ·exact Zf
theorem Yae (f:Yw a b c e=true) (B:Bmp a b c e V D g) {k:Nat} (ka:k<a) (fu:Zlg b c (g k)) (C:TCb n q a b c e cr md S T V D l p2 p4 p5 p7 pD ts h) (e9:Zg ts 9=.w (.c (.int .i64 (k:Int)))) :
  Z8 75 (some l) (q270 [1,1,1,1,0,1,2,6]) [] ts h fun x _ _ h'=>x=.normal/\h.next<=h'.next/\HE n q a b c e cr md S T V h'/\∀ m,m<h.next->m≠n+6->m≠n+13->h'.get m=h.get m:=by
 obtain⟨M,e2,e4,e5,e7,c2,c4,c5,c7,cD,b2,b4,b5,b7,bD,bl,n1,n2,n3⟩:=C
 obtain⟨g1,g2,g3,g4,g5,g6,g7,g8,g9,g10,g11⟩:=Z5 f
 have st:=Da (b:=b) ka
 have bm:=B.bm k ka
 obtain⟨nq,nx,n0⟩:=M.nx
 obtain⟨zb,hb⟩:∃ z,2+e+k * b=z:=⟨_,rfl⟩
 rw[hb] at bm
 have zbl:zb<2+e+a * b:=oM
 have ob:=Dc (z:=zb) (Z5 f) oM zbl
 have bl1:(Ob (g k)).length=256:=Fx _
 have hGE:=fun {h:Hq} (M:HE n q a b c e cr md S T V h)=>M.get f ob zbl
 simp only[bm,<-Zh5] at hGE
 have hFr:=fun {h:Hq} (M:HE n q a b c e cr md S T V h)=>Z06 Hh f M (g:=g k) (t:=b) fu oM (Nat.le_refl _) (fun w=>absurd w oM) (s:=zb) oM
 simp only[if_neg (Nat.lt_irrefl b)] at hFr
 obtain⟨B',hB⟩:=xzE (Ob (g k))
 rw[hB] at bl1
 simp only[hB] at hGE hFr
 obtain⟨_,⟨kn0,hs0⟩,⟨dk0,gl0⟩,_⟩:=M.cells
 unfold gdL gdD at gl0
 have Jf:=Ja @f @hs0 (Yu @gl0 @e2 @e4 @e5 @e7 @e9 @c2 @hb @bl1)
 iterate 4 (first|refine Zo Hh (EY (EY Za (J4 Hh)) (Mr Hh)) O0 ?_|apply gS)
 obtain⟨hZ,e1,MZ,nZ,rZ⟩:=hGE M
 have k1:=Dp Hh e1
 iterate 7 (first|refine Goes.Zh O0 ?_|refine Zo Hh (Zj Za k1) O0 ?_|apply gS)
 refine Jo fun hA eA=>?_
 have nA:hA.next=h.next+1:=by rw[eA]; simp only[H.Zd,H.Zc,nZ]
 have kA:∀ m,m<h.next->m≠n+6->hA.get m=h.get m:=fun m hm hne=>by rw[eA]; refine Eq.trans ?_ (rZ m hm hne); exact Ym
 have bA:hA.get h.next=some (.row 256 [B'] false):=by rw[eA,<-nZ]; exact Zr
 have MA:=MZ.keep (h2:=hA) oM (fun m hm=>by rw[eA]; exact Ym)
 clear eA
 have cA2:=(kA p2 oM oM).trans c2
 obtain⟨hC,k3,MC,nC,rC⟩:=hFr MA
 have Jf:=J6 Jf @cA2 @bA @nZ
 iterate 6 (first|refine Goes.Zh O0 ?_|refine Zo Hh (Zj Za k3) O0 ?_|apply gS)
 exact⟨rfl,oM,MC,fun m hm h6 h13=>(rC m oM h13).trans (kA m hm h6)⟩
theorem Yct (f:Yw a b c e=true) (B:Bmp a b c e V D g) {k t x y w:Nat} (ka:k<a) (F:FreeG b c D g k t x y w) (s2:1∈S/\1 ∉ T) (s3:2+e+k * b∈S/\2+e+k * b ∉ T) (C:TCb n q a b c e cr md S T V D l p2 p4 p5 p7 pD ts h) (e9:Zg ts 9=.w (.c (.int .i64 (k:Int)))) :
  Z8 75 (some l) (q270 [1,1,1,1,0,1,2,6]) [] ts h fun x' _ _ h'=>x'=.ret/\h.next<=h'.next/\HE n q a b c e cr md S T (Zle b e V D g k t x y w) h'/\(∀ m,m<h.next->Out n q m->m≠pD->m≠p4->m≠p5->h'.get m=h.get m)/\h'.get p4=some (.row 1 [[.int .i64 ((2+e+k * b+t:Nat):Int)]] false)/\h'.get p5=some (.row 1 [[.int .i64 0]] false):=by
 obtain⟨M,e2,e4,e5,e7,c2,c4,c5,c7,cD,b2,b4,b5,b7,bD,bl,n1,n2,n3⟩:=C
 obtain⟨t0,tb,low,gt,hk,x1⟩:=F
 obtain⟨g1,g2,g3,g4,g5,g6,g7,g8,g9,g10,g11⟩:=Z5 f
 have st:=Da (b:=b) ka
 have bm:=B.bm k ka
 have Dl:=B.des.2.2
 obtain⟨nq,nx,n0⟩:=M.nx
 have mx:=Zbl (List.all_eq_true.1 B.may _ (List.mem_of_getElem? hk))
 simp only at mx
 have Dm:(D.set k (x - 1,y,w)).all (Zb1 (b - 2 - c / 4) c)=true:=by
  rw[List.all_eq_true]
  intro z hz
  rcases List.mem_or_eq_of_mem_set hz with h1|h1
  ·exact List.all_eq_true.1 B.may z h1
  ·rw[h1]
   unfold Zb1
   rw[Sg (by show x - 1<=_; omega),Sg (by show y<=_; omega),Sg (by show w+y<=_; omega)]
   rfl
 unfold Zle
 obtain⟨D',hD'⟩:=xzE (D.set k (x - 1,y,w))
 have Dl':D'.length=a:=by rw[<-hD',List.length_set,Dl]
 rw[hD'] at Dm ⊢
 obtain⟨zb,hb⟩:∃ z,2+e+k * b=z:=⟨_,rfl⟩
 rw[hb] at bm s3 ⊢
 have zbl:zb<2+e+a * b:=oM
 have ob:=Dc (z:=zb) (Z5 f) oM zbl
 have bl1:(Ob (g k)).length=256:=Fx _
 have ml:(Ob (Tp (g k) t)).length=256:=Fx _
 have hGE:=fun {h:Hq} (M:HE n q a b c e cr md S T V h)=>M.get f ob zbl
 simp only[bm,<-Zh5] at hGE
 have hFr:=fun {h:Hq} (M:HE n q a b c e cr md S T V h)=>Z06 Hh f M (g:=g k) (t:=t) low t0 oM (fun _=>gt) (s:=zb) oM
 simp only[if_pos tb] at hFr
 have hC:=fun {h:Hq} (M:HE n q a b c e cr md S T V h) (hp:h.get pD=some (.row 3 (D.map Uy) false)) (pl:pD<h.next)=>Z05 Hh f M ka s2 (by rw[hb]; exact s3) (Zp9 (Tp (g k) t)) (F:=320) hp Dl Dl' Dm pl bD.1 (fun h2 hp2=>by
  have:=Z54 Hh hp2 hk x1 oM
  rw[hD'] at this
  exact this)
 rw[hb] at hC
 simp only[<-Zh5] at hC
 have hr:(D.map Uy)[k]? = some [.int .i64 (x:Int),.int .i64 (y:Int),.int .i64 (w:Int)]:=by rw[List.getElem?_map,hk]; rfl
 have r0:read1 3 (D.map Uy) (k * 3)=some (.int .i64 (x:Int)):=Dh (sz:=3) (j:=0) oM hr
 have dx:decide ((x:Int)<=0)=false:=decide_eq_false oM
 have es:(zb:Int)+(t:Int)=((zb+t:Nat):Int):=rfl
 obtain⟨B',hB⟩:=xzE (Ob (g k))
 obtain⟨N',hN⟩:=xzE (Ob (Tp (g k) t))
 rw[hB] at bl1
 rw[hN] at ml
 simp only[hB] at hGE hFr
 simp only[hN] at hC
 obtain⟨_,⟨kn0,hs0⟩,⟨dk0,gl0⟩,_⟩:=M.cells
 unfold gdL gdD at gl0
 obtain⟨R,hR⟩:=xzE (D.map Uy)
 have cD':=cD
 rw[hR] at r0 cD'
 have Jf:=Yy @f (Yu @hs0 @gl0 @e2 @e4 @e5 @e7 @e9 @c2 (Yu @hb @bl1 @ml @rd1 @r0 @dx @es @Nat.zero_add @Nat.add_zero))
 iterate 4 (first|refine Zo Hh (EY (EY Za (J4 Hh)) (Mr Hh)) Js ?_|apply gS)
 obtain⟨hZ,e1,MZ,nZ,rZ⟩:=hGE M
 have k1:=Dp Hh e1
 iterate 7 (first|refine Goes.Zh Js ?_|refine Zo Hh (Zj Za k1) Js ?_|apply gS)
 refine Jo fun hA eA=>?_
 have nA:hA.next=h.next+1:=by rw[eA]; simp only[H.Zd,H.Zc,nZ]
 have kA:∀ m,m<h.next->m≠n+6->hA.get m=h.get m:=fun m hm hne=>by rw[eA]; refine Eq.trans ?_ (rZ m hm hne); exact Ym
 have bA:hA.get h.next=some (.row 256 [B'] false):=by rw[eA,<-nZ]; exact Zr
 have MA:=MZ.keep (h2:=hA) oM (fun m hm=>by rw[eA]; exact Ym)
 clear eA
 have cA2:=(kA p2 oM oM).trans c2
 obtain⟨hC',k3,MC,nC,rC⟩:=hFr MA
 have kC:∀ m,m<h.next->m≠n+6->m≠n+13->hC'.get m=h.get m:=fun m hm h6 h13=>(rC m oM h13).trans (kA m hm h6)
 have cC2:=(kC p2 oM oM oM).trans c2
 have cC7:=(kC p7 oM oM oM).trans c7
 have cCD:=(kC pD oM oM oM).trans cD'
 have bC:=(rC h.next oM oM).trans bA
 have Jf:=J6 Jf @cA2 @bA @nZ
 iterate 8 (first|refine Goes.Zh Js ?_|refine Zo Hh (Zj Za k3) Js ?_|apply gS)
 have Jf:=Ja Jf @cC7 @cCD
 iterate 4 (first|refine Goes.Zh Js ?_|refine Zo Hh Za Js ?_|apply gS)
 have bC':=bC
 rw[<-hB] at bC'
 have k4:=Z9o Hh hC' h.next t (g k) oM gt bC'
 rw[hN] at k4
 iterate 3 (first|refine Zo Hh (Zj Za k4) Js ?_|apply gS)
 refine Jo fun hD eD=>?_
 have nD:hD.next=hC'.next:=by rw[eD,H.Zd]
 have kD:∀ m,m<h.next->hD.get m=hC'.get m:=fun m hm=>by rw[eD,Ze oM]
 have bD':hD.get h.next=some (.row 256 [N'] false):=by rw[eD,Zy]
 have MD:=MC.keep (h2:=hD) oM (fun m hm=>kD m oM)
 clear eD
 have d2:=(kD p2 oM).trans cC2
 have d7:=(kD p7 oM).trans cC7
 have dD:=((kD pD oM).trans (kC pD oM oM oM)).trans cD
 obtain⟨hE,k5,ME,nE,kE⟩:=hC MD dD oM
 have q4:=(kE p4 oM ⟨⟨oM,oM,oM,oM,oM⟩,oM⟩ oM).trans ((kD p4 oM).trans ((kC p4 oM oM oM).trans c4))
 have q5:=(kE p5 oM ⟨⟨oM,oM,oM,oM,oM⟩,oM⟩ oM).trans ((kD p5 oM).trans ((kC p5 oM oM oM).trans c5))
 have Jf:=J6 Jf @d2 @d7 @bD'
 iterate 6 (first|refine Goes.Zh Js ?_|refine Zo Hh (Zj Za k5) Js ?_|apply gS)
 have Jf:=Ja Jf @q4 @q5
 iterate 2 (first|refine Zo Hh Za Js ?_|apply gS)
 refine⟨rfl,?_,ME.keep ?_ (fun m hm=>?_),fun m hm ho h1 h2 h3=>?_,?_,?_⟩
 ·simp only[H.Zd]; omega
 ·simp only[H.Zd]; omega
 ·exact Ym
 ·refine Eq.trans ?_ ((kE m oM ho h1).trans ((kD m hm).trans (kC m hm ho.1.1 ho.1.2.1))); exact Ym
 ·exact Zv4
 ·exact Zv4
end
def lpB (ts:Zx) (d:Nat):O:=.loop ts 75 [33] (q270 [1,1,1,1,0,1,2,5]) (q270 [1,1,1,1,0,1,2,6]) .ready none d
structure GSb (n q a b c e:Nat) (cr:Cr) (md:Int) (S T:Lq) (V:Nat->Lq) (D:List O9) (l p2 p4 p5 p7 pD:Nat) (ts:Zx) (d pg fi i:Nat) (ts1:Zx) (h h1:Hq):Prop where
 C:TCb n q a b c e cr md S T V D l p2 p4 p5 p7 pD ts h1
 hl:h1.get l=some (lpB ts d)
 s0:Zg ts1 0=.w (.c (.yield l))
 s1:Zg ts1 1=.w (.c (.ptr pg 0))
 s5:Zg ts1 5=.w (.c (.int .i64 (fi:Int)))
 s18:Zg ts1 18=.w (.c (.int .i64 (a:Int)))
 s19:Zg ts1 19=.w (.c (.int .i64 (i:Int)))
 gp:h1.get pg=some (.row 4 [[.int .i64 (a:Int),.int .i64 (b:Int),.int .i64 (c:Int),.int .i64 (e:Int)]] false)
 bg:q+9<=pg/\pg<h1.next/\pg≠l
 nx:h.next<=h1.next
 kp:∀ m,m<h.next->m≠n+6->m≠n+13->m≠l->h1.get m=h.get m
structure TAb (n q a b c e:Nat) (cr:Cr) (md:Int) (S T:Lq) (V:Nat->Lq) (pD l p4 p5 v:Nat) (ts:Zx) (d:Nat) (h0 h:Hq):Prop where
 M:HE n q a b c e cr md S T V h
 next:h0.next<=h.next
 hl:h.get l=some (.loop ts 75 [33] (q270 [1,1,1,1,0,1,2,5]) (q270 [1,1,1,1,0,1,2,6]) .done (some .ret) d)
 r4:h.get p4=some (.row 1 [[.int .i64 (v:Int)]] false)
 r5:h.get p5=some (.row 1 [[.int .i64 0]] false)
 keep:∀ m,m<h0.next->Out n q m->m≠l->m≠pD->m≠p4->m≠p5->h.get m=h0.get m
section
variable (Hh:Hearts K Tryz.prog)
include Hh
variable {n q a b c e:Nat} {cr:Cr} [Opn cr] {md:Int} {S T:Lq} {V:Nat->Lq} {D:List O9} {g:Nat->Nat->Bool} {l p2 p4 p5 p7 pD d pg fi:Nat} {ts:Zx} {h:Hq}
theorem Z52 (f:Yw a b c e=true) (B:Bmp a b c e V D g) {k:Nat} (ka:k<a) (fu:Zlg b c (g k)) (C:TCb n q a b c e cr md S T V D l p2 p4 p5 p7 pD ts h) (hl:h.get l=some (lpB ts d)) :
  ∃ E h',Sound K Tryz.prog E/\J5 E l (some [.c (.int .i64 (k:Int))]) h (some (lpB ts d))=some (.val (.w (.c (.bool true))) h')/\TCb n q a b c e cr md S T V D l p2 p4 p5 p7 pD ts h'/\h'.get l=some (lpB ts d)/\h.next<=h'.next/\∀ m,m<h.next->m≠n+6->m≠n+13->m≠l->h'.get m=h.get m:=by
 unfold lpB at hl ⊢
 obtain⟨xa,ds1,ts1,h1,kA,rfl,rfl,t1,t9,rfl⟩:=btA Hh l ts k h
 have C':=C
 obtain⟨M,e2,e4,e5,e7,c2,c4,c5,c7,cD,b2,b4,b5,b7,bD,bl,n1,n2,n3⟩:=C
 obtain⟨nq,nx,_⟩:=M.nx
 have M':=M.keep (h2:=h1.put l (.loop ts 75 [33] (q270 [1,1,1,1,0,1,2,5]) (q270 [1,1,1,1,0,1,2,6]) .busy none d)) (by rw[H.Zd]; omega) (fun m hm=>by rw[Ze oM])
 have Cb:TCb n q a b c e cr md S T V D l p2 p4 p5 p7 pD ts1 (h1.put l (.loop ts 75 [33] (q270 [1,1,1,1,0,1,2,5]) (q270 [1,1,1,1,0,1,2,6]) .busy none d)):=by
  refine⟨M',(t1 2 dM).trans e2,(t1 4 dM).trans e4,(t1 5 dM).trans e5,(t1 7 dM).trans e7,?_,?_,?_,?_,?_,b2,b4,b5,b7,bD,bl,n1,n2,n3⟩
  ·rw[Ze (Ne.symm n3.1)]; exact c2
  ·rw[Ze (Ne.symm n3.2.1)]; exact c4
  ·rw[Ze (Ne.symm n3.2.2.1)]; exact c5
  ·rw[Ze (Ne.symm n3.2.2.2)]; exact c7
  ·rw[Ze (Ne.symm n1.2.2.2.2)]; exact cD
 obtain⟨xb,ds2,ts2,h2,kB,rfl,nn,MB,kk⟩:=Yae Hh f B ka fu Cb t9
 rw[H.Zd] at nn
 have gl:=(kk l (by rw[H.Zd]; exact bl.2) oM oM).trans (Zy ..)
 have Sd:=Dq (Dq Za kB) kA
 obtain⟨E,h3,Sd2,rnd,rfl⟩:∃ E h3,Sound K Tryz.prog E/\J5 E l (some [.c (.int .i64 (k:Int))]) h1 (h1.get l)=some (.val (.w (.c (.bool true))) h3)/\h3=h2.put l (.loop ts 75 [33] (q270 [1,1,1,1,0,1,2,5]) (q270 [1,1,1,1,0,1,2,6]) .ready none d):=by
  refine⟨_,_,Sd,Mj hl (by simp only[Oa]; rfl) (Ex ..) hl (Q0 (fun e=>?_) |>.trans (Ex ..)) gl,rfl⟩
  have e1:=(Task.code.inj e).1
  rw[Zcc,Zcb] at e1
  cases e1
 rw[hl] at rnd
 have kk':∀ m,m<h1.next->m≠n+6->m≠n+13->m≠l->(h2.put l (.loop ts 75 [33] (q270 [1,1,1,1,0,1,2,5]) (q270 [1,1,1,1,0,1,2,6]) .ready none d)).get m=h1.get m:=fun m hm h6 h13 hne=>by
  rw[Ze hne,kk m (by rw[H.Zd]; exact hm) h6 h13,Ze hne]
 have M3:HE n q a b c e cr md S T V (h2.put l (.loop ts 75 [33] (q270 [1,1,1,1,0,1,2,5]) (q270 [1,1,1,1,0,1,2,6]) .ready none d)):=MB.keep (by rw[H.Zd]; omega) (fun m hm=>by rw[Ze oM])
 refine⟨_,_,Sd2,rnd,C'.keep M3 (by rw[H.Zd]; exact nn) (fun m hm hq hne=>kk' m hm oM oM hne),Zy ..,by rw[H.Zd]; exact nn,kk'⟩
theorem Z53 (f:Yw a b c e=true) (B:Bmp a b c e V D g) {k t x y w:Nat} (ka:k<a) (F:FreeG b c D g k t x y w) (s2:1∈S/\1 ∉ T) (s3:2+e+k * b∈S/\2+e+k * b ∉ T) (C:TCb n q a b c e cr md S T V D l p2 p4 p5 p7 pD ts h) (hl:h.get l=some (lpB ts d)) :
  ∃ E h',Sound K Tryz.prog E/\J5 E l (some [.c (.int .i64 (k:Int))]) h (some (lpB ts d))=some (.val (.w (.c (.bool false))) h')/\TAb n q a b c e cr md S T (Zle b e V D g k t x y w) pD l p4 p5 (2+e+k * b+t) ts d h h':=by
 unfold lpB at hl ⊢
 obtain⟨xa,ds1,ts1,h1,kA,rfl,rfl,t1,t9,rfl⟩:=btA Hh l ts k h
 obtain⟨M,e2,e4,e5,e7,c2,c4,c5,c7,cD,b2,b4,b5,b7,bD,bl,n1,n2,n3⟩:=C
 obtain⟨nq,nx,_⟩:=M.nx
 have M':=M.keep (h2:=h1.put l (.loop ts 75 [33] (q270 [1,1,1,1,0,1,2,5]) (q270 [1,1,1,1,0,1,2,6]) .busy none d)) (by rw[H.Zd]; omega) (fun m hm=>by rw[Ze oM])
 have Cb:TCb n q a b c e cr md S T V D l p2 p4 p5 p7 pD ts1 (h1.put l (.loop ts 75 [33] (q270 [1,1,1,1,0,1,2,5]) (q270 [1,1,1,1,0,1,2,6]) .busy none d)):=by
  refine⟨M',(t1 2 dM).trans e2,(t1 4 dM).trans e4,(t1 5 dM).trans e5,(t1 7 dM).trans e7,?_,?_,?_,?_,?_,b2,b4,b5,b7,bD,bl,n1,n2,n3⟩
  ·rw[Ze (Ne.symm n3.1)]; exact c2
  ·rw[Ze (Ne.symm n3.2.1)]; exact c4
  ·rw[Ze (Ne.symm n3.2.2.1)]; exact c5
  ·rw[Ze (Ne.symm n3.2.2.2)]; exact c7
  ·rw[Ze (Ne.symm n1.2.2.2.2)]; exact cD
 obtain⟨xb,ds2,ts2,h2,kB,rfl,nn,MB,kk,r4,r5⟩:=Yct Hh f B ka F s2 s3 Cb t9
 rw[H.Zd] at nn
 have gl:=(kk l (by rw[H.Zd]; exact bl.2) ⟨⟨oM,oM,oM,oM,oM⟩,oM⟩ n1.2.2.2.2 n3.2.1 n3.2.2.1).trans (Zy ..)
 have Sd:=Dq (Dq Za kB) kA
 obtain⟨E,h3,Sd2,rnd,rfl⟩:∃ E h3,Sound K Tryz.prog E/\J5 E l (some [.c (.int .i64 (k:Int))]) h1 (h1.get l)=some (.val (.w (.c (.bool false))) h3)/\h3=h2.put l (.loop ts 75 [33] (q270 [1,1,1,1,0,1,2,5]) (q270 [1,1,1,1,0,1,2,6]) .done (some .ret) d):=by
  refine⟨_,_,Sd,Mj hl (by simp only[Oa]; rfl) (Ex ..) hl (Q0 (fun e=>?_) |>.trans (Ex ..)) gl,rfl⟩
  have e1:=(Task.code.inj e).1
  rw[Zcc,Zcb] at e1
  cases e1
 rw[hl] at rnd
 refine⟨_,_,Sd2,rnd,MB.keep (by rw[H.Zd]; omega) (fun m hm=>by rw[Ze oM]),by rw[H.Zd]; exact nn,Zy ..,?_,?_,fun m m1 m2 m3 m4 m5 m6=>?_⟩
 ·rw[Ze (Ne.symm n3.2.1)]; exact r4
 ·rw[Ze (Ne.symm n3.2.2.1)]; exact r5
 ·rw[Ze m3,kk m (by rw[H.Zd]; exact m1) m2 m4 m5 m6,Ze m3]
theorem Z2d (f:Yw a b c e=true) (B:Bmp a b c e V D g) {j:Nat} (ja:j<=a) {Q:X->Lq->Zx->Hq->Prop}:∀ (k i:Nat) (ts1:Zx) (h1:Hq),i+k=j->(∀ i',i<=i'->i'<j->Zlg b c (g ((fi+i') % a)))->GSb n q a b c e cr md S T V D l p2 p4 p5 p7 pD ts d pg fi i ts1 h h1 ->
  (∀ ts2 h2,GSb n q a b c e cr md S T V D l p2 p4 p5 p7 pD ts d pg fi j ts2 h h2->Z8 32 none (q352 [1,1,1,2]) [] ts2 h2 Q)->fi<4096 ->
  Z8 32 none (q352 [1,1,1,2]) [] ts1 h1 Q:=by
 obtain⟨g1,g2,g3,g4,g5,g6,g7,g8,g9,g10,g11⟩:=Z5 f
 intro k
 induction k with
 | zero =>
  intro i ts1 h1 hi fu G r _
  obtain rfl:i=j:=oM
  exact r ts1 h1 G
 | succ k ih =>
  intro i ts1 h1 hi fu G r fl
  obtain⟨C,hl,s0,s1,s5,s18,s19,gp,bg,nx,kp⟩:=G
  have km:=Nat.mod_lt (fi+i) (show 0<a by omega)
  have rm:Rj .i64 ((fi:Int)+(i:Int)) (a:Int)=some (.int .i64 (((fi+i) % a:Nat):Int)):=by
   have:=Ff (k:=.i64) (a:=fi+i) (b:=a) oM
   rwa [Int.natCast_add] at this
  have fu0:=fu i (Nat.le_refl _) oM
  obtain⟨kk,hkk⟩:=xzE ((fi+i) % a)
  rw[hkk] at km rm fu0
  obtain⟨E,h2,Sd,rnd,C2,hl2,n2,k2⟩:=Z52 Hh f B km fu0 C hl
  have gp2:=(k2 pg bg.2.1 (by have:=C.M.nx; omega) (by have:=C.M.nx; omega) bg.2.2).trans gp
  have dl:decide ((i:Int)<(a:Int))=true:=decide_eq_true oM
  have Jf:=Yy @s0 (Yu @s1 @s5 @s18 @s19 @gp @hl @dl @rm @rnd)
  iterate 11 (first|refine Goes.Zh Ye ?_|refine Zo Hh Za Ye ?_|apply gS)
  iterate 4 (first|refine Goes.Zh Ye ?_|refine Zo Hh Sd Ye ?_|apply gS)
  show Z8 32 none (q352 [1,1,1,2]) _ _ _ _
  refine ih (i+1) _ h2 oM (fun i' h1 h2=>fu i' oM h2) ⟨C2,hl2,?_,?_,?_,?_,?_,gp2,⟨bg.1,oM,bg.2.2⟩,oM,fun m hm h6 h13 hne=>(k2 m oM h6 h13 hne).trans (kp m hm h6 h13 hne)⟩ r fl
  ·have Jf:=@s0; exact Zm
  ·have Jf:=@s1; exact Zm
  ·have Jf:=@s5; exact Zm
  ·have Jf:=@s18; exact Zm
  ·exact Zf
end
def Sz (a b c e near:Nat):Nat:=(O5 a b c e near).2.1
theorem Zty {a b c e near:Nat} (h:(O5 a b c e near).1=0):Sz a b c e near=0:=by
 unfold Sz O5 at *
 split at h
 ·cases h
 ·split at h
  ·cases h
  ·split at h
   ·cases h
   ·split at h
    ·rw[if_neg (by assumption),if_neg (by assumption),if_neg (by assumption),if_pos (by assumption)]
    ·exfalso
     simp only at h
     split at h
     ·cases h
     ·split at h
      ·cases h
      ·split at h<;>cases h
theorem Z2z {a b c e near:Nat} (f:Yw a b c e=true):Sz a b c e near<4096:=by
 obtain⟨g1,g2,g3,g4,g5,g6,g7,g8,g9,g10,g11⟩:=Z5 f
 unfold Sz O5
 split
 ·exact (by omega:0<4096)
 ·split
  ·exact (by omega:0<4096)
  ·split
   ·exact (by omega:0<4096)
   ·split
    ·exact (by omega:0<4096)
    ·show (near - 2 - e) / b<4096
     have:(near - 2 - e) / b<=near - 2 - e:=Nat.div_le_self _ _
     omega
section
variable (Hh:Hearts K Tryz.prog)
include Hh
variable {n q a b c e:Nat} {cr:Cr} [Opn cr] {md:Int} {S T:Lq} {V:Nat->Lq} {D:List O9} {g:Nat->Nat->Bool} {l p2 p4 p5 p7 pD d pg pn:Nat} {ts:Zx} {h:Hq}
theorem Z51 (f:Yw a b c e=true) (B:Bmp a b c e V D g) {near:Nat} (nl:near<9223372036854775808) {j k t x y w:Nat} (ja:j<a) (fu:∀ i,i<j->Zlg b c (g ((Sz a b c e near+i) % a))) (hk:(Sz a b c e near+j) % a=k) (F:FreeG b c D g k t x y w) (s2:1∈S/\1 ∉ T) (s3:2+e+k * b∈S/\2+e+k * b ∉ T) (C:TCb n q a b c e cr md S T V D l p2 p4 p5 p7 pD ts h) (hl:h.get l=some (lpB ts d))
  (hg:h.get pg=some (.row 4 [[.int .i64 (a:Int),.int .i64 (b:Int),.int .i64 (c:Int),.int .i64 (e:Int)]] false)) (hn:h.get pn=some (.row 1 [[.int .i64 (near:Int)]] false)) (bg:q+9<=pg/\pg<h.next/\pg≠l) :
  ∃ v h',Zb 352 [.c (.yield l),.c (.ptr pg 0),.c (.ptr pn 0)] h v h'/\TAb n q a b c e cr md S T (Zle b e V D g k t x y w) pD l p4 p5 (2+e+k * b+t) ts d h h':=by
 obtain⟨g1,g2,g3,g4,g5,g6,g7,g8,g9,g10,g11⟩:=Z5 f
 have cW:=fun h=>Z4b Hh (Z5 f) h near nl
 have hz:=Zty (a:=a) (b:=b) (c:=c) (e:=e) (near:=near)
 have fl:=Z2z (near:=near) f
 have km:=Nat.mod_lt (Sz a b c e near+j) (show 0<a by omega)
 rw[hk] at km
 obtain⟨kd,hkd⟩:=xzE ((O5 a b c e near).1)
 obtain⟨od,hod⟩:=xzE ((O5 a b c e near).2.2)
 have hfi:(O5 a b c e near).2.1=Sz a b c e near:=rfl
 obtain⟨fi,hf⟩:=xzE (Sz a b c e near)
 simp only[hkd,hod,hfi,hf] at cW hz fu hk fl
 have last:∀ {Q:X->Lq->Zx->Hq->Prop} (ts2:Zx) (h2:Hq),GSb n q a b c e cr md S T V D l p2 p4 p5 p7 pD ts d pg fi j ts2 h h2->(∀ ts3 h3,TAb n q a b c e cr md S T (Zle b e V D g k t x y w) pD l p4 p5 (2+e+k * b+t) ts d h h3->Q .ret [] ts3 h3)->Z8 32 none (q352 [1,1,1,2]) [] ts2 h2 Q:=by
  intro Q ts2 h2 G2 hQ
  obtain⟨C2,hl2,s0,s1,s5,s18,s19,gp,bg2,nx,kp⟩:=G2
  have rm:Rj .i64 ((fi:Int)+(j:Int)) (a:Int)=some (.int .i64 (k:Int)):=by
   have:=Ff (k:=.i64) (a:=fi+j) (b:=a) oM
   rw[hk] at this
   rwa [Int.natCast_add] at this
  obtain⟨E,h3,Sd,rnd,A⟩:=Z53 Hh f B km F s2 s3 C2 hl2
  have dl:decide ((j:Int)<(a:Int))=true:=decide_eq_true oM
  have Jf:=Yy @s0 (Yu @s1 @s5 @s18 @s19 @gp @hl2 @dl @rm @rnd)
  iterate 11 (first|refine Goes.Zh Ye ?_|refine Zo Hh Za Ye ?_|apply gS)
  iterate 3 (first|refine Goes.Zh Ye ?_|refine Zo Hh Sd Ye ?_|apply gS)
  refine hQ _ _ ⟨A.M,by have:=A.next; omega,A.hl,A.r4,A.r5,fun m hm ho m1 m2 m3 m4=>(A.keep m oM ho m1 m2 m3 m4).trans (kp m hm ho.1.1 ho.1.2.1 m1)⟩
 by_cases k0:kd=0
 ·obtain rfl:fi=0:=hz k0
  have e0:((kd:Int) == 0)=true:=Qm oM
  refine Yk Hh Tryz.f352 ?_
  apply Z6
  iterate 9 (first|((first|apply Goes.Zh|apply Goes.ops2 fits Hh (Y4 Za cW)); · simp (maxSteps:=9^6) +decide (disch:=first|exact dZ|fail) only [go_sem,Zn,Zi,simprocAttr,hg,hn,e0,Jt,read1]<;>rfl)|apply gS)
  refine Z2d Hh f B (Nat.le_of_lt ja) j 0 _ _ oM (fun i' _ h2=>fu i' h2) (h:=h) ⟨C,hl,?_,?_,?_,?_,?_,hg,bg,Nat.le_refl _,fun _ _ _ _ _=>rfl⟩ (fun ts2 h2 G2=>last ts2 h2 G2 (fun ts3 h3 A=>?_)) fl
  ·exact Zf
  ·exact Zf
  ·exact Zf
  ·exact Zf
  ·exact Zf
  exact⟨_,_,Zf,A⟩
 ·have e0:((kd:Int) == 0)=false:=D7 oM
  refine Yk Hh Tryz.f352 ?_
  apply Z6
  iterate 9 (first|((first|apply Goes.Zh|apply Goes.ops2 fits Hh (Y4 Za cW)); · simp (maxSteps:=9^6) +decide (disch:=first|exact dZ|fail) only [go_sem,Zn,Zi,simprocAttr,hg,hn,e0,Jt,read1]<;>rfl)|apply gS)
  refine Z2d Hh f B (Nat.le_of_lt ja) j 0 _ _ oM (fun i' _ h2=>fu i' h2) (h:=h) ⟨C,hl,?_,?_,?_,?_,?_,hg,bg,Nat.le_refl _,fun _ _ _ _ _=>rfl⟩ (fun ts2 h2 G2=>last ts2 h2 G2 (fun ts3 h3 A=>?_)) fl
  ·exact Zf
  ·exact Zf
  ·exact Zf
  ·exact Zf
  ·exact Zf
  exact⟨_,_,Zf,A⟩
end
section
variable (Hh:Hearts K Tryz.prog)
include Hh
variable {n q a b c e:Nat} {cr:Cr} [Opn cr] {md:Int} {S T:Lq} {V:Nat->Lq} {D:List O9} {g:Nat->Nat->Bool} {p2 p4 p5 p7 pD pg pn:Nat} {ts:Zx} {h:Hq}
theorem Z6c (f:Yw a b c e=true) (B:Bmp a b c e V D g) {near:Nat} (nl:near<9223372036854775808) {j k t x y w:Nat} (ja:j<a) (fu:∀ i,i<j->Zlg b c (g ((Sz a b c e near+i) % a))) (hk:(Sz a b c e near+j) % a=k) (F:FreeG b c D g k t x y w) (s2:1∈S/\1 ∉ T) (s3:2+e+k * b∈S/\2+e+k * b ∉ T)
  (C:∀ h2 l,h.next<l->l<h2.next->(∀ m,m<h.next->h2.get m=h.get m)->TCb n q a b c e cr md S T V D l p2 p4 p5 p7 pD ts h2) (nh:q+9<=h.next) (nq:n+23<=q) (l4:p4<h.next) (l5:p5<h.next) (lD:pD<h.next)
  (hg:h.get pg=some (.row 4 [[.int .i64 (a:Int),.int .i64 (b:Int),.int .i64 (c:Int),.int .i64 (e:Int)]] false)) (hn:h.get pn=some (.row 1 [[.int .i64 (near:Int)]] false)) (lg:q+9<=pg/\pg<h.next) (ln:pn<h.next) (e32:Zg ts 32=.w (.c (.fn 352 [] [some (pg,0),some (pn,0)]))) :
  Z8 75 none (q270 [1,1,1,1,0,1,2]) [] ts h fun x' ds' ts' h'=>x'=.ret/\ts'=ts/\ds'=[h.next]/\h'.get h.next=some .defers/\h'.get p4=some (.row 1 [[.int .i64 ((2+e+k * b+t:Nat):Int)]] false)/\h'.get p5=some (.row 1 [[.int .i64 0]] false)/\HE n q a b c e cr md S T (Zle b e V D g k t x y w) h'/\h.next<=h'.next/\∀ m,m<h.next->Out n q m->m≠pD->m≠p4->m≠p5->h'.get m=h.get m:=by
 have g0:∀ (o:O) m,m<h.next->((h.new .defers).new o).get m=h.get m:=fun o m hm=>by rw[Yf (by rw[H.Zc]; omega),Yf oM]
 have gd:∀ o:O,((h.new .defers).new o).get h.next=some .defers:=fun o=>by rw[Yf (by rw[H.Zc]; omega),O3]
 have T1:=C ((h.new .defers).new (lpB ts h.next)) (h.next+1) oM (by simp only[H.Zc]; omega) (fun m hm=>g0 _ m hm)
 rw[Zoy]
 refine Goes.Zfq fits Hh (f:=352) (first:=[]) (caps:=[some (pg,0),some (pn,0)]) (by simp only[Z4,Ya,e32,asC]) (exE (Z51 Hh f B nl ja fu hk F s2 s3 T1 (by rw[U8 (by simp only[H.Zc]; omega)]; rfl) ((g0 _ _ lg.2).trans hg) ((g0 _ _ ln).trans hn) ⟨lg.1,by simp only[H.Zc]; omega,oM⟩) ?_)
 rintro v h3 A
 have an:=A.next
 simp only[H.Zc] at an
 refine⟨_,_,_,_,_,_,_,_,A.hl,by simp,?_⟩
 show _/\_/\_
 refine⟨rfl,rfl,rfl,?_,?_,?_,A.M.keep (by rw[H.Zd]; omega) (fun m hm=>by rw[Ze oM]),by rw[H.Zd]; omega,fun m hm ho m1 m2 m3=>?_⟩
 ·rw[Ze oM,A.keep _ (by simp only[H.Zc]; omega) ⟨⟨oM,oM,oM,oM,oM⟩,oM⟩ oM oM oM oM,gd]
 ·rw[Ze oM,A.r4]
 ·rw[Ze oM,A.r5]
 ·rw[Ze oM,A.keep m (by simp only[H.Zc]; omega) ho oM m1 m2 m3,g0 _ _ hm]
theorem Z99 (f:Yw a b c e=true) (M:HE n q a b c e cr md S T V h) (B:Bmp a b c e V D g) {near:Nat} (nl:near<9223372036854775808) {j k t x y w:Nat} (ja:j<a) (fu:∀ i,i<j->Zlg b c (g ((Sz a b c e near+i) % a))) (hk:(Sz a b c e near+j) % a=k) (F:FreeG b c D g k t x y w) (s2:1∈S/\1 ∉ T) (s3:2+e+k * b∈S/\2+e+k * b ∉ T) :
  ∃ h',Zb 270 [.c (.ptr (n+13) 0),.c (.int .i64 (near:Int))] h (.tup [.c (.int .i64 ((2+e+k * b+t:Nat):Int)),.c (.int .i64 0)]) h'/\HE n q a b c e cr md S T (Zle b e V D g k t x y w) h'/\Kp n q h h':=by
 obtain⟨nq,nx,_⟩:=M.nxO
 obtain⟨_,⟨kn0,hs⟩,⟨dk0,gl⟩,ht⟩:=M.cells
 unfold gdL gdD at gl
 refine O1 ?_
 refine Yk Hh Tryz.f270 ?_
 have Jf:=J6 @f @hs @gl @ht
 iterate 10 (first|refine Goes.Zh Mx ?_|refine Zo Hh (EY Za (Zzx Hh)) Mx ?_|apply gS)
 refine Jo fun hA eA=>?_
 have nA:hA.next=h.next+1+1+1:=nxQ eA
 have kA:∀ m,m<h.next->hA.get m=h.get m:=kQ eA
 have a2:hA.get h.next=some (.row 1 [[.ptr (n+13) 0]] false):=by rw[eA]; exact Zf
 have a4:hA.get (h.next+1)=some (.row 1 [[.int .i64 0]] false):=by rw[eA]; exact Zf
 have a5:hA.get (h.next+1+1)=some (.row 1 [[.int .i64 0]] false):=by rw[eA]; exact Zf
 clear eA
 have MA:=M.keep (h2:=hA) oM (fun m hm=>kA m oM)
 obtain⟨hB,pD,k6,MB,kB',pD1,pD2,cD⟩:=Z50 Hh f MA B.des
 have kB:=kB'.2
 obtain⟨_,⟨knB,hsB⟩,⟨dkB,glB⟩,_⟩:=MB.cells
 unfold gdL gdD at glB
 have b2:=(kB h.next oM oM).trans a2
 have b4:=(kB (h.next+1) oM oM).trans a4
 have b5:=(kB (h.next+1+1) oM oM).trans a5
 have Jf:=G6 Jf @a2 @hsB @glB @b2
 iterate 8 (first|refine Goes.Zh Mx ?_|refine Zo Hh (Zj Za k6) Mx ?_|apply gS)
 iterate 2 (first|refine Zo Hh (EY (EY Za (J4 Hh)) (Zse Hh)) Mx ?_|apply gS)
 refine Jo fun hC eC=>?_
 have nC:hC.next=hB.next+1+1+1:=nxQ eC
 have kC:∀ m,m<hB.next->hC.get m=hB.get m:=kQ eC
 have c7:hC.get hB.next=some (.row 1 [[.slice pD 0 a 3]] false):=by rw[eC]; exact Zf
 have cg:hC.get (hB.next+1)=some (.row 4 [[.int .i64 (a:Int),.int .i64 (b:Int),.int .i64 (c:Int),.int .i64 (e:Int)]] false):=by rw[eC]; exact Zf
 have cn:hC.get (hB.next+1+1)=some (.row 1 [[.int .i64 (near:Int)]] false):=by rw[eC]; exact Zf
 clear eC
 have nB:=MB.nx.2.1
 have MC:=MB.keep (h2:=hC) oM (fun m hm=>kC m oM)
 refine (Z6c Hh (h:=hC) (n:=n) (cr:=cr) (md:=md) (S:=S) (T:=T) f B nl ja fu hk F s2 s3 (p2:=h.next) (p4:=h.next+1) (p5:=h.next+1+1) (p7:=hB.next) (pD:=pD) (pg:=hB.next+1) (pn:=hB.next+1+1) ?_ oM nq oM oM oM cg cn ⟨oM,oM⟩ oM ?_).mono ?_
 ·intro h2 l l1 l2 k2
  refine⟨MC.keep oM (fun m hm=>k2 m oM),?_,?_,?_,?_,(k2 _ oM).trans ((kC _ oM).trans b2),(k2 _ oM).trans ((kC _ oM).trans b4),(k2 _ oM).trans ((kC _ oM).trans b5),(k2 _ oM).trans c7,(k2 _ oM).trans ((kC _ oM).trans cD),?_,?_,?_,?_,?_,?_,?_,?_,?_⟩
  all_goals (first|omega|(simp (decide:=true) only [Zp,reduceIte]))
 ·exact tY
 rintro x ds' ts' h' ⟨rfl,rfl,rfl,gd',r4,r5,MM,nn,kk⟩
 refine⟨_,_,(by have Jf:=Ja @gd' @r4 @r5; exact Ye),rfl,MM.keep ?_ (fun m hm=>?_),?_,fun m hm ho=>?_⟩
 ·simp only[H.Zd,H.Zc,H.Yv]<;>omega
 ·exact Ym
 ·simp only[H.Zd,H.Zc,H.Yv]<;>omega
 ·refine Eq.trans ?_ ((kk m oM ho oM oM oM).trans ((kC m oM).trans ((kB m oM ho.1.1).trans (kA m hm)))); exact Ym
end
def fF (b c:Nat):Nat:=b - 2 - c / 4
def Fj (b c e m:Nat):Nat:=2+e+m / fF b c * b+(2+c / 4+m % fF b c)
def gG (b c m k j:Nat):Bool:=decide (j<2+c / 4+min (fF b c) (m - k * fF b c)) || decide (b<=j)
def DG (a b c:Nat) (iw:Nat->Nat × Nat) (m:Nat):List O9:=(List.range a).map fun k=>(fF b c - min (fF b c) (m - k * fF b c),iw k)
def AlG (a b c e:Nat) (iw:Nat->Nat × Nat) (V:Nat->Lq) (m:Nat):Prop:=Bmp a b c e V (DG a b c iw m) (gG b c m)
def mtG (a b e z:Nat):Prop:=z=1\/∃ k,k<a/\z=2+e+k * b
def nkG (a b c e near:Nat):Prop:=near<9223372036854775808/\Sz a b c e near=0
def Zb0 (c:Nat) (iw:Nat->Nat × Nat):Prop:=∀ k,(iw k).2+(iw k).1<=c
section
variable {a b c e:Nat} {iw:Nat->Nat × Nat} {V:Nat->Lq} {m:Nat}
theorem Zga {k:Nat} (ka:k<a):(DG a b c iw m)[k]? = some (fF b c - min (fF b c) (m - k * fF b c),iw k):=by
 unfold DG
 rw[List.getElem?_map,List.getElem?_range ka]
 rfl
theorem R6:(DG a b c iw m).length=a:=by unfold DG; rw[List.length_map,List.length_range]
theorem Zna (h:Zb0 c iw):(DG a b c iw m).all (Zb1 (b - 2 - c / 4) c)=true:=by
 unfold DG
 rw[List.all_map]
 refine List.all_eq_true.2 fun k _=>?_
 have:=h k
 show Zb1 (b - 2 - c / 4) c (fF b c - min (fF b c) (m - k * fF b c),iw k)=true
 simp only[Zb1]
 rw[Q8 (by unfold fF; omega),Q8 oM,Q8 this]
 rfl
theorem Zlr (f:Yw a b c e=true) {D:List O9} (Dl:D.length=a) (Dm:D.all (Zb1 (b - 2 - c / 4) c)=true):goodD (Ze2 D) a b c=true/\Dj (Ze2 D) a 0=D:=by
 obtain⟨_,h1,h2⟩:=Zye f Dl Dm
 unfold Zyd at h1 h2
 rw[Gp] at h1 h2
 rw[Rz] at h1
 rw[N9] at h2
 exact⟨h1,h2⟩
theorem Z7o {k m F:Nat} (h:m / F=k) (hF:0<F):k * F<=m/\m<k * F+F/\m - k * F=m % F:=by
 have:=Nat.div_add_mod m F
 have h2:=Nat.mod_lt m hF
 rw[h,Nat.mul_comm] at this
 omega
theorem Sr {k k' F:Nat} (h:k<k'):k * F+F<=k' * F:=by
 have:=Nat.mul_le_mul_right F (Nat.succ_le_of_lt h)
 rwa [Nat.succ_mul] at this
theorem Z6w {k:Nat} (hF:0<fF b c) (hk:m / fF b c=k):Tp (gG b c m k) (2+c / 4+m % fF b c)=gG b c (m+1) k:=by
 obtain⟨h1,h2,h3⟩:=Z7o hk hF
 have h4:=Nat.mod_lt m hF
 have h5:m+1 - k * fF b c=m % fF b c+1:=oM
 funext j
 unfold Tp gG
 rw[h3,h5,Bool.eq_iff_iff]
 simp only[Bool.or_eq_true,decide_eq_true_eq]
 omega
theorem Z15 {k k':Nat} (hF:0<fF b c) (hk:m / fF b c=k) (ne:k'≠k):gG b c (m+1) k'=gG b c m k'/\min (fF b c) (m+1 - k' * fF b c)=min (fF b c) (m - k' * fF b c):=by
 obtain⟨h1,h2,h3⟩:=Z7o hk hF
 have e:min (fF b c) (m+1 - k' * fF b c)=min (fF b c) (m - k' * fF b c):=by
  rcases Nat.lt_or_gt_of_ne ne with q|q
  ·have:=Sr (F:=fF b c) q; omega
  ·have:=Sr (F:=fF b c) q; omega
 refine⟨?_,e⟩
 funext j
 unfold gG
 rw[e]
theorem Z9x {k:Nat} (hF:0<fF b c) (hk:m / fF b c=k) (ka:k<a):(DG a b c iw m).set k (fF b c - m % fF b c - 1,iw k)=DG a b c iw (m+1):=by
 obtain⟨h1,h2,h3⟩:=Z7o hk hF
 have h4:=Nat.mod_lt m hF
 apply List.ext_getElem?
 intro i
 rcases Nat.lt_or_ge i a with q|q
 ·by_cases e:i=k
  ·subst e
   rw[List.getElem?_set_self (by rw[R6]; exact q),Zga q]
   congr 2
   omega
  ·rw[List.getElem?_set_ne (Ne.symm e),Zga q,Zga q,(Z15 hF hk e).2]
 ·rw[List.getElem?_eq_none (by rw[List.length_set,R6]; exact q),List.getElem?_eq_none (by rw[R6]; exact q)]
theorem AlG.step (f:Yw a b c e=true) (io:Zb0 c iw) (A:AlG a b c e iw V m) (hF:0<fF b c) {k:Nat} (hk:m / fF b c=k) (ka:k<a):AlG a b c e iw (Zle b e V (DG a b c iw m) (gG b c m) k (2+c / 4+m % fF b c) (fF b c - m % fF b c) (iw k).1 (iw k).2) (m+1):=by
 obtain⟨g1,g2,g3,g4,g5,g6,g7,g8,g9,g10,g11⟩:=Z5 f
 obtain⟨gd,td⟩:=Zlr f (D:=DG a b c iw (m+1)) R6 (Zna io)
 unfold Zle
 have es:(DG a b c iw m).set k (fF b c - m % fF b c - 1,(iw k).1,(iw k).2)=DG a b c iw (m+1):=Z9x hF hk ka
 rw[es,Z6w hF hk]
 refine⟨fun k' hk'=>?_,⟨by rw[Bc]; exact gd,by rw[Bc]; exact td,R6⟩,Zna io⟩
 rw[Jd oM]
 by_cases e:k'=k
 ·subst e
  rw[Bc]
 ·rw[Jd (fun w=>by
   rcases Nat.lt_or_gt_of_ne e with q|q
   ·have:=Sr (F:=b) q; omega
   ·have:=Sr (F:=b) q; omega),(Z15 hF hk e).1]
  exact A.bm k' hk'
theorem Zn4 (f:Yw a b c e=true):0<fF b c/\2+c / 4+fF b c=b:=by
 obtain⟨g1,g2,g3,g4,g5,g6,g7,g8,g9,g10,g11⟩:=Z5 f
 unfold fF
 omega
theorem Zg8 (f:Yw a b c e=true) (h:m<a * fF b c):m / fF b c<a/\Fj b c e m<2+e+a * b/\2+e<=Fj b c e m:=by
 obtain⟨p1,p2⟩:=Zn4 f
 have ka:m / fF b c<a:=Nat.div_lt_of_lt_mul (by rw[Nat.mul_comm]; exact h)
 have:=Nat.mod_lt m p1
 have st:=Da (b:=b) ka
 refine⟨ka,?_,?_⟩
 ·unfold Fj; omega
 ·unfold Fj; omega
theorem Vx (f:Yw a b c e=true) {k r:Nat} (hr:r<2+c / 4):Fj b c e m≠2+e+k * b+r:=fun w=>by
 obtain⟨p1,p2⟩:=Zn4 f
 have:=Nat.mod_lt m p1
 unfold Fj at w
 rcases Nat.lt_trichotomy (m / fF b c) k with q|q|q
 ·have:=Sr (F:=b) q; omega
 ·rw[q] at w; omega
 ·have:=Sr (F:=b) q; omega
theorem Zqb (f:Yw a b c e=true) (i:Nat):Y1 b c e i≠Fj b c e m:=fun w=>by
 obtain⟨g1,g2,g3,g4,g5,g6,g7,g8,g9,g10,g11⟩:=Z5 f
 have tc:i % c<c:=Nat.mod_lt _ oM
 refine Vx (m:=m) f (k:=i / c) (r:=2+i % c / 4) oM ?_
 rw[<-w]
 unfold Y1
 omega
theorem Zdc (f:Yw a b c e=true) {m':Nat} (h:Fj b c e m=Fj b c e m'):m=m':=by
 obtain⟨p1,p2⟩:=Zn4 f
 have h1:=Nat.mod_lt m p1
 have h2:=Nat.mod_lt m' p1
 have d1:=Nat.div_add_mod m (fF b c)
 have d2:=Nat.div_add_mod m' (fF b c)
 unfold Fj at h
 rcases Nat.lt_trichotomy (m / fF b c) (m' / fF b c) with q|q|q
 ·have:=Sr (F:=b) q; omega
 ·rw[q] at h d1
  omega
 ·have:=Sr (F:=b) q; omega
theorem Z7n (f:Yw a b c e=true) (i:Nat):¬ mtG a b e (Y1 b c e i):=fun w=>by
 obtain⟨g1,g2,g3,g4,g5,g6,g7,g8,g9,g10,g11⟩:=Z5 f
 have tc:i % c<c:=Nat.mod_lt _ oM
 rcases w with w|⟨k,ka,w⟩
 ·unfold Y1 at w; omega
 ·unfold Y1 at w
  rcases Nat.lt_trichotomy (i / c) k with q|q|q
  ·have:=Sr (F:=b) q; omega
  ·rw[q] at w; omega
  ·have:=Sr (F:=b) q; omega
theorem Z7r (f:Yw a b c e=true) {i:Nat} (hi:i<c):nkG a b c e (Y1 b c e i):=by
 obtain⟨g1,g2,g3,g4,g5,g6,g7,g8,g9,g10,g11⟩:=Z5 f
 have d0:i / c=0:=Nat.div_eq_of_lt hi
 have m0:i % c=i:=Nat.mod_eq_of_lt hi
 have st:=Da (b:=b) (show 0<a by omega)
 have ic:i / 4<c / 4:=oM
 have eb:Y1 b c e i=2+e+(2+i / 4):=by unfold Y1; rw[d0,m0]; omega
 refine⟨by rw[eb]; omega,?_⟩
 rw[eb]
 unfold Sz O5
 rw[if_neg oM,if_neg oM,if_neg oM,if_neg oM]
 show (2+e+(2+i / 4) - 2 - e) / b=0
 exact Nat.div_eq_of_lt oM
section
variable (Hh:Hearts K Tryz.prog)
include Hh
variable {n q:Nat} {cr:Cr} [Opn cr] {md:Int} {S:Lq} {cap:Nat} {h:Hq} {T:Lq}
theorem Z93 (f:Yw a b c e=true) (io:Zb0 c iw) (cF:cap<=a * fF b c) (s1:1∈S) (s2:∀ m,m<cap->Fj b c e m∈S/\2+e+m / fF b c * b∈S):AlcW n q a b c e cr md S (AlG a b c e iw) (Fj b c e) cap (mtG a b e) (nkG a b c e):=by
 obtain⟨p1,p2⟩:=Zn4 f
 have FF:=Z5 f
 refine⟨⟨fun {V h T m near} M A mc nr hT=>?_,fun {V m z x} A hz=>?_,fun m mc=>?_,fun m m' _ _ e=>Zdc f e⟩,fun m mc=>(s2 m mc).1⟩
 ·obtain⟨ka,b1,b2⟩:=Zg8 f (show m<a * fF b c by omega)
  obtain⟨k,hk⟩:=xzE (m / fF b c)
  obtain⟨h1,h2,h3⟩:=Z7o hk p1
  have h4:=Nat.mod_lt m p1
  have sk:=(s2 m mc).2
  rw[hk] at ka sk
  have F:FreeG b c (DG a b c iw m) (gG b c m) k (2+c / 4+m % fF b c) (fF b c - m % fF b c) (iw k).1 (iw k).2:=by
   refine⟨oM,oM,fun j h1 h2=>?_,?_,?_,oM⟩
   ·unfold gG
    rw[h3,decide_eq_true oM]
    rfl
   ·unfold gG
    rw[h3,decide_eq_false oM,decide_eq_false oM]
    rfl
   ·rw[Zga ka,h3]
    congr 2
    omega
  obtain⟨h',c',M',k'⟩:=Z99 Hh f M A (near:=near) nr.1 (j:=k) (k:=k) ka (fun i hi=>by
   rw[nr.2,Nat.zero_add,Nat.mod_eq_of_lt oM]
   intro j q1 q2
   have:=Sr (F:=fF b c) hi
   unfold gG
   rw[decide_eq_true oM]
   rfl) (by rw[nr.2,Nat.zero_add,Nat.mod_eq_of_lt ka]) F ⟨s1,hT 1 (.inl rfl)⟩ ⟨sk,hT _ (.inr ⟨k,ka,rfl⟩)⟩
  refine⟨h',_,?_,M',k',A.step f io p1 hk ka,fun z hz=>?_⟩
  ·have e1:2+e+k * b+(2+c / 4+m % fF b c)=Fj b c e m:=by unfold Fj; rw[hk]
   rw[e1] at c'
   exact c'
  ·unfold Zle
   rw[Jd (fun w=>hz (.inl w)),Jd (fun w=>hz (.inr ⟨k,ka,w⟩))]
 ·obtain⟨bm,⟨d1,d2,d3⟩,my⟩:=A
  refine⟨fun k hk=>?_,⟨?_,?_,d3⟩,my⟩
  ·rw[Jd (fun w=>hz (.inr ⟨k,hk,w.symm⟩))]; exact bm k hk
  ·rw[Jd (fun w=>hz (.inl w.symm))]; exact d1
  ·rw[Jd (fun w=>hz (.inl w.symm))]; exact d2
 ·obtain⟨ka,b1,b2⟩:=Zg8 f (show m<a * fF b c by omega)
  refine⟨Dc FF b2 b1,b1,oM,fun w=>?_⟩
  rcases w with w|⟨k,_,w⟩
  ·omega
  ·exact Vx (m:=m) f (k:=k) (r:=0) oM w
end
def iw0 (c k:Nat):Nat × Nat:=if k=0 then (c - 1,1) else (c,0)
theorem Zog (hc:1<=c):Zb0 c (iw0 c):=fun k=>by
 unfold iw0
 split
 ·show 1+(c - 1)<=c; omega
 ·show 0+c<=c; omega
end
end
end Go.Proofs.YtmanipmhebgdbaaGreatDoor
