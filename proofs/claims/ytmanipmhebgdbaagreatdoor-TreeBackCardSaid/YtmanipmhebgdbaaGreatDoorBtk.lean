/- Store.Busy, where no block was given back. -/
import Derived.Test.YtmanipmhebgdbaaGreatDoorStrX
set_option maxRecDepth 100000
set_option maxHeartbeats 4000000
set_option linter.unusedSimpArgs false
set_option linter.unusedVariables false
set_option linter.unusedSectionVars false
namespace Go.Proofs.YtmanipmhebgdbaaGreatDoor
open Go.Ev
noncomputable section
theorem rs365:Tryz.f365.results.toList=[.tmp 2]:=rfl
theorem rs337:Tryz.f337.results.toList=[.tmp 2]:=rfl
theorem rs301:Tryz.f301.results.toList=[.tmp 2]:=rfl
theorem rs355:Tryz.f355.results.toList=[.tmp 4,.tmp 5]:=rfl
theorem rs353:Tryz.f353.results.toList=[.tmp 4]:=rfl
attribute [go_sem] rs365 rs337 rs301 rs355 rs353
def Zul:Kn1:=fun args h=>match args with
 | [.c (.map m)]=>some (.w (.c (.fn 379 [] [some (h.next,0)])),h.new (.row 1 [[.map m]] false))
 | _=>none
def Z34:Kn1:=fun args h=>match args with
 | [.c (.map m)]=>Y5 (Gh h m) (some (.w (.c .snil),h))
 | _=>none
def Zo1:Kn1:=fun args h=>match args with
 | [.c (.ptr t 0)]=>(Ov h t).bind fun X=>Y5 (Gh h X.fr) (some (.w (.c .snil),h))
 | _=>none
def Z3i:Kn1:=fun args h=>match args with
 | [.c .snil,.c (.int .i64 _)]=>some (.tup [.c (.int .i64 0),.c (.bool false)],h)
 | _=>none
def Zs8:C->Bool
 | .snil=>true
 | _=>false
theorem Zx2 {c:C} (e:Zs8 c=true):c=.snil:=by
 cases c<;>first|rfl|cases e
def Zfj:Kn1:=fun args h=>match args with
 | [.c (.ptr s 0),.c (.int .i64 _)]=>(G6 h s).bind fun S=>(Ov h S.tx).bind fun X=>Y5 (Gh h X.fr&&Zs8 S.bs) (some (.w (.c (.bool false)),bif S.kn then h else h.put s (.row 8 [stL { S with kn:=true }] false)))
 | _=>none
attribute [go_sem] Zul Z34 Zo1 Z3i Zfj Zs8
section
variable (Hh:Hearts K Tryz.prog)
include Hh
theorem Zy7 {args:List W} {h h':Hq} {v:V} (e:Zul args h=some (v,h')):Zb 365 args h v h':=by
 unfold Zul at e
 split at e
 ·cases e
  refine fnG Hh Tryz.f365 ?_
  repeat (first|apply Z6|apply Yc|refine Zn Hh Za Fq ?_)
  exact Zd
 ·cases e
theorem Z35 {args:List W} {h h':Hq} {v:V} (e:Z34 args h=some (v,h')):Zb 337 args h v h':=by
 unfold Z34 at e
 split at e
 ·rename_i m
  obtain⟨b,e⟩:=Zu.1 e
  have hm:=Je b
  cases e
  refine Zx.tidy ⟨Tryz.f337,Tryz.func337,kR,by decide⟩ fun tidy=>?_
  have l2:=tidy _ _ hm
  refine Dx rfl ?_
  refine Ym Hh Tryz.f337 ?_
  have Jf:=@hm
  repeat (first|apply Z6|apply Yc|refine Zn Hh (EY (EY Za (Zy7 Hh)) (Ta Hh)) Ye ?_)
  exact⟨_,_,Zd,rfl,fun j hj=>by exact Yn⟩
 ·cases e
theorem Zu7 {args:List W} {h h':Hq} {v:V} (e:Zo1 args h=some (v,h')):Zb 301 args h v h':=by
 unfold Zo1 at e
 split at e
 ·rename_i t
  obtain⟨X,ht,e⟩:=Zk e
  have ht:=Yw ht
  obtain⟨b,e⟩:=Zu.1 e
  have hm:=Je b
  cases e
  refine fnG Hh Tryz.f301 ?_
  have Jf:=Y2 @ht @hm
  repeat (first|apply Z6|apply Yx|apply Yc|refine Goes.Zi Ye ?_|refine Zn Hh (EY (EY Za (Bh Hh)) (Z35 Hh)) Ye ?_)
  exact Zd
 ·cases e
theorem Zrt {args:List W} {h h':Hq} {v:V} (e:Z3i args h=some (v,h')):Zb 355 args h v h':=by
 unfold Z3i at e
 split at e
 ·cases e
  have lf:=Zdb
  have d0:decide ((0:Int)<0)=false:=rfl
  refine fnG Hh Tryz.f355 ?_
  have Jf:=Y2 @lf @d0
  iterate 15 (first|refine Goes.Zi Ui ?_|refine Zn Hh Za Ui ?_|apply gS)
  refine gO fits Hh Za (by
   iterate 25 (refine U1 Ui ?_)
   exact U0) ?_
  apply Yc
  exact Zd
 ·cases e
theorem Zze {args:List W} {h h':Hq} {v:V} (e:Zfj args h=some (v,h')):Zb 353 args h v h':=by
 unfold Zfj at e
 split at e
 ·rename_i s z
  obtain⟨S,hs,e⟩:=Zk e
  have hs:=Y6 hs
  obtain⟨X,ht,e⟩:=Zk e
  have ht:=Yw ht
  obtain⟨b,e⟩:=Zu.1 e
  rw[aQ] at b
  have hm:=Je b.1
  obtain⟨gd,tx,dt,gv,bs,kn⟩:=S
  have eb:bs=.snil:=Zx2 b.2
  subst eb
  have n1:tx≠s:=fun e1=>by simp only[e1] at ht; rw[ht] at hs; cases hs
  have n2:X.fr≠s:=fun e1=>by rw[e1,hs] at hm; cases hm
  have pp:=@H.Zdl
  cases kn with
  | true =>
   cases e
   refine fnG Hh Tryz.f353 ?_
   have Jf:=Jh @hs @ht @hm
   iterate 17 (first|refine Goes.Zi Ye ?_|refine Zn Hh (EY (EY Za (Ga Hh)) (Zrt Hh)) Ye ?_|apply gS)
   exact Zd
  | false =>
   cases e
   refine fnG Hh Tryz.f353 ?_
   have Jf:=Jh @hs @ht @hm
   iterate 26 (first|refine Goes.Zi Zgk ?_|refine Zn Hh (EY (EY (EY (EY Za (Ga Hh)) (Zu7 Hh)) (Zmm Hh)) (Zrt Hh)) Zgk ?_|apply gS)
   have Jf:=@pp; exact Zq
 ·cases e
end
section
variable {n q a b c e:Nat} {cr:Cr} {md:Int} {h:Hq} {S T:Lq} {V:Nat->Lq}
theorem HE.busy (M:HE n q a b c e cr md S T V h) (z:Int):∃ h',Zfj [.c (.ptr (n+13) 0),.c (.int .i64 z)] h=some (.w (.c (.bool false)),h')/\HE n q a b c e cr md S T V h'/\h'.next=h.next/\∀ m,m≠n+13->h'.get m=h.get m:=by
 obtain⟨d,d1,d2,kn,ld,lt,lc,lm,L,fl,sn,ft,fc,t5,vt,t7,t8,t9,tT,see,M⟩:=M
 have MM:=M
 obtain⟨f1,f2,f3,f4,l1,l2,f5,f6,f7,f8,f9,f10,f11,f12,f13,f14,f15,f16,f17,f18,f19,f20,f21⟩:=M
 cases kn with
 | true=>exact⟨h,by unfold Zfj; simp (maxSteps:=9^6) +decide (disch:=first|exact dZ|fail) only [go_sem,Zm,Zh,simprocAttr,f19,f5,f12]<;>rfl,⟨d,d1,d2,true,ld,lt,lc,lm,L,fl,sn,ft,fc,t5,vt,t7,t8,t9,tT,see,MM⟩,rfl,fun _ _=>rfl⟩
 | false =>
  refine⟨h.put (n+13) (.row 8 [stL (stH n q cr true)] false),by unfold Zfj; simp (maxSteps:=9^6) +decide (disch:=first|exact dZ|fail) only [go_sem,Zm,Zh,simprocAttr,f19,f5,f12]<;>rfl,⟨d,d1,d2,true,ld,lt,lc,lm,L,fl,sn,ft,fc,t5,vt,t7,t8,t9,tT,see,?_⟩,rfl,fun m hm=>Zc hm⟩
  have db:=Zhr q cr
  refine⟨?_,f2,f3,f4,l1,l2,?_,?_,?_,?_,?_,?_,?_,?_,?_,?_,?_,?_,f17,?_,Zz _ _ _,fun o=>?_,?_⟩
  all_goals (rw[Zc oM]; first|assumption|exact f20 o)
end
open Go.Ev
attribute [go_sem] ty3 sz3 ag3 de3 ze3 ke3 ty4 sz4 ag4 ze4 ty5 sz5 ag5 de5 ze5 by5 ty87 sz87 ag87 de87 ze87 by87 ty137 de137
theorem rs142:Tryz.f142.results.toList=[.tmp 2]:=rfl
theorem rs141:Tryz.f141.results.toList=[.tmp 2]:=rfl
theorem rs65:Tryz.f65.results.toList=[.tmp 4]:=rfl
attribute [go_sem] rs142 rs141 rs65
def b8 (b0 b1 b2 b3 b4 b5 b6 b7:Bool):Nat:=b0.toNat+2 * b1.toNat+4 * b2.toNat+8 * b3.toNat+16 * b4.toNat+32 * b5.toNat+64 * b6.toNat+128 * b7.toNat
theorem Ybm:∀ b0 b1 b2 b3 b4 b5 b6 b7:Bool,b8 b0 b1 b2 b3 b4 b5 b6 b7<256:=by decide +kernel
theorem land8:∀ b0 b1 b2 b3 b4 b5 b6 b7:Bool,∀ j:Fin 8,Nat.land (b8 b0 b1 b2 b3 b4 b5 b6 b7) (2 ^ j.1)=if [b0,b1,b2,b3,b4,b5,b6,b7].getD j.1 false=true then 2 ^ j.1 else 0:=by decide +kernel
theorem lor8:∀ b0 b1 b2 b3 b4 b5 b6 b7:Bool,∀ j:Fin 8,Nat.lor (b8 b0 b1 b2 b3 b4 b5 b6 b7) (2 ^ j.1)=b8 (b0 || decide (j.1=0)) (b1 || decide (j.1=1)) (b2 || decide (j.1=2)) (b3 || decide (j.1=3)) (b4 || decide (j.1=4)) (b5 || decide (j.1=5)) (b6 || decide (j.1=6)) (b7 || decide (j.1=7)):=by decide +kernel
def byB (g:Nat->Bool) (t:Nat):Nat:=b8 (g (8 * t)) (g (8 * t+1)) (g (8 * t+2)) (g (8 * t+3)) (g (8 * t+4)) (g (8 * t+5)) (g (8 * t+6)) (g (8 * t+7))
def Oi (g:Nat->Bool):List C:=(List.range 256).map fun t=>C.int .u8 ((byB g t:Nat):Int)
def Tg (g:Nat->Bool) (i:Nat):Nat->Bool:=fun j=>g j || decide (j=i)
theorem Fz (g:Nat->Bool):(Oi g).length=256:=by simp [Oi]
theorem Ze0 (g:Nat->Bool) (t:Nat) (h:t<256):(Oi g)[t]? = some (C.int .u8 ((byB g t:Nat):Int)):=by simp [Oi,h]
theorem sel8 (g:Nat->Bool) (i:Nat):[g (8 * (i / 8)),g (8 * (i / 8)+1),g (8 * (i / 8)+2),g (8 * (i / 8)+3),g (8 * (i / 8)+4),g (8 * (i / 8)+5),g (8 * (i / 8)+6),g (8 * (i / 8)+7)].getD (i % 8) false=g i:=by
 have e:=Nat.div_add_mod i 8
 obtain⟨t,ht⟩:=xzE (i / 8)
 rw[ht] at e ⊢
 have hj:i % 8=0\/i % 8=1\/i % 8=2\/i % 8=3\/i % 8=4\/i % 8=5\/i % 8=6\/i % 8=7:=oM
 rcases hj with h|h|h|h|h|h|h|h<;>rw[h] at e ⊢ <;> rw[<-e]<;>rfl
theorem Zhi (g:Nat->Bool) (i:Nat):Nat.land (byB g (i / 8)) (2 ^ (i % 8))=if g i=true then 2 ^ (i % 8) else 0:=by
 have:=land8 (g (8 * (i / 8))) (g (8 * (i / 8)+1)) (g (8 * (i / 8)+2)) (g (8 * (i / 8)+3)) (g (8 * (i / 8)+4)) (g (8 * (i / 8)+5)) (g (8 * (i / 8)+6)) (g (8 * (i / 8)+7)) ⟨i % 8,oM⟩
 simp only[sel8] at this
 exact this
theorem Z5f (g:Nat->Bool) (i:Nat):Nat.lor (byB g (i / 8)) (2 ^ (i % 8))=byB (Tg g i) (i / 8):=by
 have:=lor8 (g (8 * (i / 8))) (g (8 * (i / 8)+1)) (g (8 * (i / 8)+2)) (g (8 * (i / 8)+3)) (g (8 * (i / 8)+4)) (g (8 * (i / 8)+5)) (g (8 * (i / 8)+6)) (g (8 * (i / 8)+7)) ⟨i % 8,oM⟩
 refine this.trans ?_
 have e:=Nat.div_add_mod i 8
 unfold byB Tg
 have q:∀ k,k<8->decide (i % 8=k)=decide (8 * (i / 8)+k=i):=fun k hk=>by
  rw[decide_eq_decide]
  omega
 have q0:=q 0 oM
 rw[Nat.add_zero] at q0
 simp only[q0,q 1 oM,q 2 oM,q 3 oM,q 4 oM,q 5 oM,q 6 oM,q 7 oM]
theorem Zxh (g:Nat->Bool) (i t:Nat) (h:t≠i / 8):byB (Tg g i) t=byB g t:=by
 unfold byB Tg
 have q:∀ k,k<8->decide (8 * t+k=i)=false:=fun k hk=>decide_eq_false oM
 have q0:=q 0 oM
 rw[Nat.add_zero] at q0
 simp only[q0,q 1 oM,q 2 oM,q 3 oM,q 4 oM,q 5 oM,q 6 oM,q 7 oM,Bool.or_false]
theorem Zyd (g:Nat->Bool) (i:Nat) (hi:i<2048):(Oi g).set (i / 8) (.int .u8 ((Nat.lor (byB g (i / 8)) (2 ^ (i % 8)):Nat):Int))=Oi (Tg g i):=by
 refine List.ext_getElem (by simp [Oi]) fun t h1 h2=>?_
 rw[List.getElem_set]
 simp only[Oi,List.getElem_map,List.getElem_range]
 by_cases e:i / 8=t
 ·rw[if_pos e,Z5f,e]
 ·rw[if_neg e,Zxh _ _ _ (fun x=>e x.symm)]
theorem Xw (g:Nat->Bool) (t:Nat):byB g t<256:=Ybm ..
theorem Zbc (i:Nat):2 ^ (i % 8)<256:=Nat.lt_of_lt_of_le (Nat.pow_lt_pow_right oM (show i % 8<8 by omega)) dM
theorem lor256 {a b:Nat} (ha:a<256) (hb:b<256):Nat.lor a b<256:=Nat.or_lt_two_pow (n:=8) ha hb
theorem land256 {a b:Nat} (ha:a<256):Nat.land a b<256:=Nat.lt_of_le_of_lt Nat.and_le_left ha
section
variable (Hh:Hearts K Tryz.prog)
include Hh
theorem isOk (h:Hq) (i:Nat) (hi:i<2048):Zb 142 [.c (.int .i64 i)] h (.w (.c (.bool true))) h:=by
 refine fnG Hh Tryz.f142 ?_
 iterate 5 (first|apply Z6|apply Yc|refine Zn Hh Za Zd ?_)
 exact Zd
theorem Zta (h:Hq) (i:Nat):Zb 141 [.c (.int .i64 i)] h (.w (.c (.int .u8 ((2 ^ (i % 8):Nat):Int)))) h:=by
 have r1:Nr .i64 (i:Int) 8=some (.int .i64 ((i % 8:Nat):Int)):=Et (b:=8) oM
 have s1:Zah .u8 1 ((i % 8:Nat):Int)=some (.int .u8 ((2 ^ (i % 8):Nat):Int)):=by
  have h8:=Zbc i
  unfold Zah
  rw[decide_eq_false oM,cond_false]
  have e:min ((i % 8:Nat):Int).toNat IntKind.u8.bits=i % 8:=by
   show min ((i % 8:Nat):Int).toNat 8=i % 8
   omega
  rw[e,Int.one_mul,Zd0 ⟨Int.pow_nonneg oM,by exact_mod_cast h8⟩]
  congr 2
 refine fnG Hh Tryz.f141 ?_
 have Jf:=Y2 @r1 @s1
 iterate 5 (first|apply Z6|apply Yc|refine Zn Hh Za Zq ?_)
 exact Zq
theorem Z8o (h:Hq) (b i:Nat) (g:Nat->Bool) (hi:i<2048) (hg:g i=false) (hb:h.get b=some (.row 256 [Oi g] false)):Zb 65 [.c (.ptr b 0),.c (.int .i64 i)] h (.w (.c (.bool true))) (h.put b (.row 256 [Oi (Tg g i)] false)):=by
 have c1:=isOk Hh h i hi
 have c2:=Zta Hh h i
 have q1:Tt .i64 (i:Int) 8=some (.int .i64 ((i / 8:Nat):Int)):=Lj (b:=8) oM oM
 have rd:read1 256 [Oi g] (i / 8)=some (.int .u8 ((byB g (i / 8):Nat):Int)):=by
  unfold read1
  rw[Nat.div_eq_of_lt oM,Nat.mod_eq_of_lt oM,List.getElem?_cons_zero]
  exact Ze0 g _ oM
 have wr:Z0 256 [Oi g] (i / 8) [.int .u8 ((Nat.lor (byB g (i / 8)) (2 ^ (i % 8)):Nat):Int)]=some [Oi (Tg g i)]:=by
  simp only[Z0]
  rw[Nat.div_eq_of_lt oM,Nat.mod_eq_of_lt oM,List.getElem?_cons_zero]
  simp only[Fz]
  rw[Zbr oM,cond_true,Zyd g i hi]
  rfl
 have l1:De .u8 Nat.land ((byB g (i / 8):Nat):Int) ((2 ^ (i % 8):Nat):Int)=.int .u8 ((0:Nat):Int):=by
  rw[Zvl (Xw _ _) (Zbc _) (land256 (Xw _ _)),Zhi,hg]
  rfl
 have l2:De .u8 Nat.lor ((byB g (i / 8):Nat):Int) ((2 ^ (i % 8):Nat):Int)=.int .u8 ((Nat.lor (byB g (i / 8)) (2 ^ (i % 8)):Nat):Int):=Zvl (Xw _ _) (Zbc _) (lor256 (Xw _ _) (Zbc _))
 refine fnG Hh Tryz.f65 ?_
 have Jf:=L8 @q1 @rd @wr @l1 @l2 @hb
 iterate 4 (first|apply Z6|refine Zn Hh Za Zq ?_)
 iterate 4 (first|apply Z6|apply Yx|refine Goes.Zi Zq ?_|refine Fe Hh (Zj (Zj Za c1) c2) Vs ?_)
 iterate 4 (first|apply Z6|apply Yc|refine Zn Hh (Zj Za c2) Zq ?_|refine Fe Hh (Zj Za c2) Vs ?_)
 exact Zq
end
open Go.Ev
theorem Vm {sz k j:Nat} {L:List (List C)} {x:List C} {c:C} (hx:L[k]? = some x) (xl:x.length=sz) (hj:j<sz):Z0 sz L (k * sz+j) [c]=some (L.set k (x.set j c)):=by
 have e1:(k * sz+j) / sz=k:=by rw[Nat.mul_comm,Nat.mul_add_div oM,Nat.div_eq_of_lt hj,Nat.add_zero]
 have e2:(k * sz+j) % sz=j:=by rw[Nat.mul_comm,Nat.mul_add_mod,Nat.mod_eq_of_lt hj]
 simp only[Z0,e1,e2,hx]
 rw[Zbr oM,cond_true]
def Zb5 (g:Nat->Bool):Lq:=(List.range 256).map (byB g)
theorem Zpn (g:Nat->Bool):(Zb5 g).length=256:=by simp [Zb5]
theorem Zhg (g:Nat->Bool):Oi g=pgL (Zb5 g):=by
 unfold Oi pgL Zb5
 rw[List.map_map]
 refine List.map_congr_left fun t _=>?_
 show C.int .u8 ((byB g t:Nat):Int)=.int .u8 ((byB g t % 256:Nat):Int)
 rw[Nat.mod_eq_of_lt (Xw g t)]
def Zeg (D:List Gc):Lq:=Fg (Ma D 0 Br)
theorem Zcu (D:List Gc):(Zeg D).length=256:=by unfold Zeg; rw[Fg,Yj,Zho]; exact Zo8
def Des (V:Nat->Lq) (a b c:Nat) (D:List Gc):Prop:=goodD (V 1) a b c=true/\Dn (V 1) a 0=D/\D.length=a
noncomputable def q63 (p:Lq):Code:=piece p (J8 Tryz.f63)
theorem rs63:Tryz.f63.results.toList=[.tmp 6]:=rfl
attribute [go_sem] rs63
section
variable (Hh:Hearts K Tryz.prog)
include Hh
theorem Zxu (g:Nat->Bool) {p t u:Nat} (tu:t<=u) (u2:u<=2048) (ht:t<u->g t=false) {h:Hq} (hp:h.get p=some (.row 256 [Oi g] false)):∀ (k i:Nat) (ts:Zv),i+k=t->(∀ j,i<=j->j<t->g j=true)->Zg ts 3=.w (.c (.ptr p 0))->Zg ts 2=.w (.c (.int .i64 (u:Int)))->Zg ts 7=.w (.c (.int .i64 (i:Int))) ->
  Z9 27 none (q63 [1,1,0,1,2]) [] ts h fun x ds' ts' h'=>((t<u/\x=.ret/\Zg ts' 6=.w (.c (.int .i64 (t:Int))))\/(t=u/\x=.exit 0))/\ds'=[]/\h'=h:=by
 intro k
 induction k with
 | zero =>
  intro i ts hi _ t3 t2 t7
  obtain rfl:i=t:=oM
  rcases Nat.lt_or_ge i u with lt|ge
  ·have gi:=ht lt
   have cm:=fun h=>Zta Hh h i
   have q1:Tt .i64 (i:Int) 8=some (.int .i64 ((i / 8:Nat):Int)):=Lj (b:=8) oM oM
   have rd:read1 256 [Oi g] (i / 8)=some (.int .u8 ((byB g (i / 8):Nat):Int)):=by
    unfold read1
    rw[Nat.div_eq_of_lt oM,Nat.mod_eq_of_lt oM,List.getElem?_cons_zero]
    exact Ze0 g _ oM
   have l1:De .u8 Nat.land ((byB g (i / 8):Nat):Int) ((2 ^ (i % 8):Nat):Int)=.int .u8 ((0:Nat):Int):=by
    rw[Zvl (Xw _ _) (Zbc _) (land256 (Xw _ _)),Zhi,gi]
    rfl
   have Jf:=Ng @t2 @t3 @t7 @hp @q1 @rd @l1
   iterate 9 (first|refine Goes.Zi Zq ?_|refine Zn Hh Za Zq ?_|apply gS)
   iterate 5 (first|refine Goes.Zi Zq ?_|refine Zn Hh (Y3 Za cm) Zq ?_|refine Fe Hh (Y3 Za cm) Vs ?_|apply gS)
   refine⟨.inl ⟨lt,rfl,?_⟩,rfl,rfl⟩
   exact Zq
  ·obtain rfl:i=u:=oM
   have Jf:=Y2 @t2 @t7
   iterate 6 (first|refine Goes.Zi Zq ?_|refine Zn Hh Za Zq ?_|apply gS)
   exact⟨.inr ⟨rfl,rfl⟩,rfl,rfl⟩
 | succ k ih =>
  intro i ts hi all t3 t2 t7
  have gi:=all i oM oM
  have cm:=fun h=>Zta Hh h i
  have q1:Tt .i64 (i:Int) 8=some (.int .i64 ((i / 8:Nat):Int)):=Lj (b:=8) oM oM
  have rd:read1 256 [Oi g] (i / 8)=some (.int .u8 ((byB g (i / 8):Nat):Int)):=by
   unfold read1
   rw[Nat.div_eq_of_lt oM,Nat.mod_eq_of_lt oM,List.getElem?_cons_zero]
   exact Ze0 g _ oM
  have p1:0<2 ^ (i % 8):=Nat.pow_pos oM
  have e1:(((2 ^ (i % 8):Nat):Int) == 0)=false:=Db (by exact_mod_cast (Nat.pos_iff_ne_zero.1 p1))
  have l1:De .u8 Nat.land ((byB g (i / 8):Nat):Int) ((2 ^ (i % 8):Nat):Int)=.int .u8 ((2 ^ (i % 8):Nat):Int):=by
   rw[Zvl (Xw _ _) (Zbc _) (land256 (Xw _ _)),Zhi,gi]
   rfl
  have Jf:=Vr @t2 @t3 @t7 @hp @q1 @rd @l1 @e1
  iterate 9 (first|refine Goes.Zi Zq ?_|refine Zn Hh Za Zq ?_|apply gS)
  iterate 4 (first|refine Goes.Zi Zq ?_|refine Zn Hh (Y3 Za cm) Zq ?_|refine Fe Hh (Y3 Za cm) Vs ?_|apply gS)
  show Z9 27 none (q63 [1,1,0,1,2]) _ _ _ _
  refine ih (i+1) _ oM (fun j h1 h2=>all j oM h2) ?_ ?_ ?_
  ·have Jf:=@t3; exact Zq
  ·have Jf:=@t2; exact Zq
  ·exact Zd
theorem Z05 (g:Nat->Bool) {s t u:Nat} (st:s<=t) (tu:t<=u) (u2:u<=2048) (all:∀ j,s<=j->j<t->g j=true) (ht:t<u->g t=false) (h:Hq):Zb 63 [.g (Oi g),.c (.int .i64 (s:Int)),.c (.int .i64 (u:Int))] h (.w (.c (.int .i64 (if t<u then (t:Int) else -1)))) h:=by
 have mx:max (s:Int) 0=(s:Int):=oM
 have mn:min (u:Int) 2048=(u:Int):=oM
 have mi:¬(2048<(u:Int)):=oM
 have mj:¬((s:Int)<0):=oM
 have pl:=Fz g
 have lp:=fun (h:Hq) (p:Nat) hp=>Zxu Hh g tu u2 ht (h:=h) (p:=p) hp (t - s) s
 obtain⟨G,hG⟩:=xzE (Oi g)
 rw[hG] at pl ⊢
 simp only[hG] at lp
 refine Dx rfl ?_
 refine Ym Hh Tryz.f63 ?_
 iterate 8 (first|(apply gO fits Hh Za; · simp (maxSteps:=9^6) +decide (disch:=first|exact dZ|fail) only [go_sem,Zh,simprocAttr,mx,mn,mi,mj,pl,if_neg,if_false,Zr,Yt,read1]<;>rfl)|apply gS)
 refine (lp _ h.next ?_ _ oM all ?_ ?_ ?_).mono ?_
 ·have Jf:=@pl; exact Zt
 ·exact Yi
 ·simp (maxSteps:=9^6) +decide (disch:=first|exact dZ|fail) only [go_sem,Zh,simprocAttr,mx,mn,mi,mj,if_neg,if_false]<;>rfl
 ·simp (maxSteps:=9^6) +decide (disch:=first|exact dZ|fail) only [go_sem,Zh,simprocAttr,mx,mn,mi,mj,if_neg,if_false]<;>rfl
 rintro x ds' ts' h' ⟨hx,rfl,rfl⟩
 rcases hx with ⟨lt,rfl,t6⟩|⟨rfl,rfl⟩
 ·rw[if_pos lt]
  exact⟨_,_,(by have Jf:=@t6; exact Zq),rfl,fun m hm=>by exact Yn⟩
 ·rw[if_neg (Nat.lt_irrefl _)]
  iterate 3 (first|refine Zn Hh Za Zd ?_|apply gS)
  exact⟨_,_,Zd,rfl,fun m hm=>by exact Yn⟩
end
theorem rs323:Tryz.f323.results.toList=[.tmp 2]:=rfl
theorem rs281:Tryz.f281.results.toList=[.tmp 2]:=rfl
theorem rs282:Tryz.f282.results.toList=[.tmp 2,.tmp 3]:=rfl
theorem rs318:Tryz.f318.results.toList=[.tmp 4]:=rfl
theorem rs319:Tryz.f319.results.toList=[.tmp 6]:=rfl
theorem rs283:Tryz.f283.results.toList=[.tmp 10]:=rfl
theorem rs320:Tryz.f320.results.toList=[]:=rfl
attribute [go_sem] rs323 rs281 rs282 rs318 rs319 rs283 rs320
def Zt5:Kn1:=fun args h=>match args with
 | [.c (.ptr s 0)]=>(G6 h s).bind fun S=>(Eu h S.gd).bind fun _=>some (.w (.c (.int .i64 0)),h)
 | _=>none
def Zt6:Kn1:=fun args h=>match args with
 | [.c (.ptr s 0)]=>(G6 h s).bind fun S=>(Eu h S.gd).bind fun _=>(Ov h S.tx).bind fun X=>Y5 X.op (some (.w (.c (.int .i64 0)),h))
 | _=>none
def Zjo:Kn1:=fun args h=>match args with
 | [.g [a,b,c,d],.c z]=>some (.w (.c (.fn 352 [] [some (h.next,0),some (h.next+1,0)])),(h.new (.row 4 [[a,b,c,d]] false)).new (.row 1 [[z]] false))
 | _=>none
attribute [go_sem] Zt5 Zt6 Zjo
section
variable (Hh:Hearts K Tryz.prog)
include Hh
theorem Zy2 {args:List W} {h h':Hq} {v:V} (e:Zt5 args h=some (v,h')):Zb 323 args h v h':=by
 unfold Zt5 at e
 split at e
 ·rename_i s
  obtain⟨S,hs,e⟩:=Zk e
  have hs:=Y6 hs
  obtain⟨G,hg,e⟩:=Zk e
  obtain⟨hg,fb⟩:=Jp hg
  cases e
  refine fnG Hh Tryz.f323 ?_
  repeat (first|apply Z6|apply Yx|apply Yc|((first|apply Goes.Zi|apply gO fits Hh (EY (EY Za (J3 Hh)) (Gi Hh))); · simp (maxSteps:=9^6) +decide (disch:=first|exact dZ|fail) only [go_sem,Zm,Zh,simprocAttr,hs,hg,gdL,fb,Jw]<;>rfl))
  exact Zd
 ·cases e
theorem Zy3 {args:List W} {h h':Hq} {v:V} (e:Zt6 args h=some (v,h')):Zb 281 args h v h':=by
 unfold Zt6 at e
 split at e
 ·rename_i s
  obtain⟨S,hs,e⟩:=Zk e
  have hs:=Y6 hs
  obtain⟨G,hg,e⟩:=Zk e
  obtain⟨hg,fb⟩:=Jp hg
  obtain⟨X,ht,e⟩:=Zk e
  have ht:=Yw ht
  obtain⟨bo,e⟩:=Zu.1 e
  cases e
  refine fnG Hh Tryz.f281 ?_
  repeat (first|apply Z6|apply Qj|apply Yx|apply Yc|((first|apply Goes.Zi|apply gO fits Hh (EY (EY (EY Za (Zy2 Hh)) (Zbi Hh)) (Zd4 Hh))); · simp (maxSteps:=9^6) +decide (disch:=first|exact dZ|fail) only [go_sem,Zm,Zh,simprocAttr,hs,ht,hg,gdL,fb,bo]<;>rfl)|simp +decide only [reduceIte])
  exact Zd
 ·cases e
theorem Zrs {args:List W} {h h':Hq} {v:V} (e:Zjo args h=some (v,h')):Zb 318 args h v h':=by
 unfold Zjo at e
 split at e
 ·cases e
  refine fnG Hh Tryz.f318 ?_
  repeat (first|apply Z6|apply Yc|((first|apply Goes.Zi|apply gO fits Hh Za); · simp (maxSteps:=9^6) +decide (disch:=first|exact dZ|fail) only [go_sem,Zm,Zh,simprocAttr,Yt,Zcl,Sq,ptrs]<;>rfl))
  exact Zd
 ·cases e
variable {n q a b c e:Nat} {cr:Cr} {md:Int} {S T:Lq} {V:Nat->Lq} {h:Hq}
theorem Z42 (f:Yu a b c e=true) (M:HE n q a b c e cr md S T V h) {D:List Gc} (dd:Des V a b c D) :
  ∃ h' p,Zb 282 [.c (.ptr (n+13) 0)] h (.tup [.c (.slice p 0 a 3),.c (.int .i64 0)]) h'/\HE n q a b c e cr md S T V h'/\Kr n q h h'/\h.next<=p/\p<h'.next/\h'.get p=some (.row 3 (D.map U4) false):=by
 obtain⟨g1,g2,g3,g4,g5,g6,g7,g8,g9,g10,g11⟩:=Z5 f
 obtain⟨gd,td,Dl⟩:=dd
 obtain⟨hG,e1,MG,nG,rG⟩:=M.get f (z:=1) (Xd a b c e) oM
 have c1:Zb 34 [.c (.ptr (n+13) 0),.c (.int .i64 1)] h (.tup [.g (pgL (V 1)),.c (.int .i64 0)]) hG:=Eo Hh e1
 have Yl:(pgL (V 1)).length=256:=by rw[J7]; exact M.len (z:=1) (Xd a b c e) oM
 have bd:=Zee (V 1)
 have gd':goodD (unN (pgL (V 1))) a b c=true:=by rw[Gr,Ru]; exact gd
 have td':Dn (unN (pgL (V 1))) a 0=D:=by rw[Gr,Nw]; exact td
 obtain⟨Y,hY⟩:=xzE (pgL (V 1))
 rw[hY] at c1 Yl bd gd' td'
 obtain⟨nq,nx,n0⟩:=M.nx
 obtain⟨st,⟨kn,hs⟩,⟨dk,gl⟩,ht⟩:=MG.cells
 obtain⟨st0,⟨kn0,hs0⟩,⟨dk0,gl0⟩,ht0⟩:=M.cells
 unfold gdL gdD at gl gl0
 obtain⟨v,h',cc,p,rfl,M',hk,p1,p2,p3⟩:∃ v h',Zb 282 [.c (.ptr (n+13) 0)] h v h'/\∃ p,v=.tup [.c (.slice p 0 a 3),.c (.int .i64 0)]/\HE n q a b c e cr md S T V h'/\Kr n q h h'/\h.next<=p/\p<h'.next/\h'.get p=some (.row 3 (D.map U4) false):=by
  refine Ym Hh Tryz.f282 ?_
  have Jf:=Jh @f @st (Yp @hs @gl @hs0 @gl0 @Yl @bd @gd' @td' @Dl)
  iterate 3 (first|refine Zn Hh Za O5 ?_|apply gS)
  iterate 7 (first|refine Goes.Zi O5 ?_|refine Zn Hh (Zj Za c1) O5 ?_|apply gS)
  iterate 2 (first|refine Fe Hh (EY (EY Za (J3 Hh)) (Zwv Hh)) Zpl ?_|apply gS)
  refine⟨_,_,Yi,_,rfl,MG.keep ?_ (fun m hm=>?_),⟨?_,fun m hm hne=>?_⟩,?_,?_,?_⟩
  ·first|omega|(simp only[H.Zf,H.Ze]<;>omega)
  ·exact Yn
  ·first|omega|(simp only[H.Zf,H.Ze]<;>omega)
  ·refine Eq.trans ?_ (rG m hm hne); exact Yn
  ·first|omega|(simp only[H.Zf,H.Ze]<;>omega)
  ·first|omega|(simp only[H.Zf,H.Ze]<;>omega)
  ·exact Yi
 exact⟨h',p,cc,M',hk,p1,p2,p3⟩
theorem Z0a (f:Yu a b c e=true) (M:HE n q a b c e cr md S T V h) {g:Nat->Bool} {t:Nat} (low:∀ j,2+c / 4<=j->j<t->g j=true) (t0:2+c / 4<=t) (tb:t<=b) (gt:t<b->g t=false) {s:Nat} (sl:s<=4096) :
  ∃ h',Zb 319 [.c (.ptr (n+13) 0),.c (.int .i64 (s:Int)),.g (Oi g)] h (.w (.c (.int .i64 (if t<b then (t:Int) else -1)))) h'/\HE n q a b c e cr md S T V h'/\h.next<=h'.next/\∀ m,m<h.next->m≠n+13->h'.get m=h.get m:=by
 obtain⟨g1,g2,g3,g4,g5,g6,g7,g8,g9,g10,g11⟩:=Z5 f
 obtain⟨nq,nx,n0⟩:=M.nx
 obtain⟨st,⟨kn,hs⟩,⟨dk,gl⟩,ht⟩:=M.cells
 unfold gdL gdD at gl
 have pl:(Oi g).length=256:=Fz _
 have cF:=Z05 Hh g (s:=2+c / 4) (t:=t) (u:=b) t0 tb oM low gt
 have q4:Tt .i64 (c:Int) 4=some (.int .i64 ((c / 4:Nat):Int)):=Lj (b:=4) oM oM
 have e2:(2:Int)+((c / 4:Nat):Int)=((2+c / 4:Nat):Int):=rfl
 have d0:decide (((2+c / 4:Nat):Int)<(b:Int))=true:=decide_eq_true oM
 obtain⟨y,hy⟩:=xzE (2+c / 4)
 rw[hy] at cF e2 d0 t0
 obtain⟨B,hB⟩:=xzE (Oi g)
 rw[hB] at pl cF ⊢
 obtain⟨z,hz⟩:=xzE ((if t<b then (t:Int) else -1))
 rw[hz] at cF ⊢
 refine Ow ?_
 by_cases tl:t<b
 ·obtain rfl:z=(t:Int):=by rw[<-hz,if_pos tl]
  have es:(s:Int)+(t:Int)=((s+t:Nat):Int):=rfl
  refine Ym Hh Tryz.f319 ?_
  have Jf:=Vr @f @hs @gl @pl @q4 @e2 @d0 @es
  iterate 17 (first|refine Goes.Zi Ux ?_|refine Zn Hh (EY Za (J3 Hh)) Ux ?_|apply gS)
  iterate 7 (first|refine Goes.Zi Ux ?_|refine Zn Hh (Y3 Za cF) Ux ?_|apply gS)
  refine Jq fun hA eA=>?_
  have nA:hA.next=h.next+2:=nxQ eA
  have kA:∀ m,m<h.next->hA.get m=h.get m:=kQ eA
  clear eA
  have MA:=M.keep (h2:=hA) oM (fun m hm=>kA m oM)
  obtain⟨hC,e8,MC,nC,rC⟩:=MA.busy ((s+t:Nat):Int)
  have c8:=Zze Hh e8
  iterate 5 (first|refine Goes.Zi Ux ?_|refine Zn Hh (Zj Za c8) Ux ?_|apply gS)
  exact⟨_,_,Zd,rfl,MC,oM,fun m hm hne=>(rC m hne).trans (kA m hm)⟩
 ·obtain rfl:z = -1:=by rw[<-hz,if_neg tl]
  refine Ym Hh Tryz.f319 ?_
  have Jf:=Ng @f @hs @gl @pl @q4 @e2 @d0
  iterate 17 (first|refine Goes.Zi Ux ?_|refine Zn Hh (EY Za (J3 Hh)) Ux ?_|apply gS)
  iterate 8 (first|refine Goes.Zi Ux ?_|refine Zn Hh (Y3 Za cF) Ux ?_|apply gS)
  refine⟨_,_,Zd,rfl,M.keep ?_ (fun m hm=>?_),?_,fun m hm hne=>?_⟩
  ·first|omega|(simp only[H.Zf,H.Ze]<;>omega)
  ·exact Yn
  ·first|omega|(simp only[H.Zf,H.Ze]<;>omega)
  ·exact Yn
theorem Z46 {p k:Nat} {D:List Gc} {x y w:Nat} {h:Hq} (hp:h.get p=some (.row 3 (D.map U4) false)) (hk:D[k]? = some (x,y,w)) (x1:1<=x) (x2:x<4096):Zb 320 [.c (.ptr p (k * 3))] h (.tup []) (h.put p (.row 3 ((D.set k (x - 1,y,w)).map U4) false)):=by
 have hr:(D.map U4)[k]? = some [.int .i64 (x:Int),.int .i64 (y:Int),.int .i64 (w:Int)]:=by rw[List.getElem?_map,hk]; rfl
 have r1:read1 3 (D.map U4) (k * 3)=some (.int .i64 (x:Int)):=Fa (sz:=3) (j:=0) oM hr
 have w1:Z0 3 (D.map U4) (k * 3) [.int .i64 ((x:Int) - 1)]=some ((D.map U4).set k [.int .i64 ((x:Int) - 1),.int .i64 (y:Int),.int .i64 (w:Int)]):=Vm (j:=0) hr rfl oM
 have fin:(D.map U4).set k [.int .i64 ((x:Int) - 1),.int .i64 (y:Int),.int .i64 (w:Int)]=(D.set k (x - 1,y,w)).map U4:=by
  rw[List.map_set]
  congr 1
  show _=[C.int .i64 ((x - 1:Nat):Int),.int .i64 (y:Int),.int .i64 (w:Int)]
  rw[show ((x - 1:Nat):Int)=(x:Int) - 1 by omega]
 obtain⟨Z,hZ⟩:=xzE (D.map U4)
 rw[hZ] at hp r1 w1 fin
 refine fnG Hh Tryz.f320 ?_
 have Jf:=J4 @hp @r1 @w1 @Nat.add_zero
 repeat (first|refine Zn Hh Za Zq ?_)
 have Jf:=@fin; exact Zq
variable [Opn cr]
theorem Zz9 (f:Yu a b c e=true) (M:HE n q a b c e cr md S T V h) {k:Nat} (ka:k<a) (s2:1∈S/\1 ∉ T) (s3:2+e+k * b∈S/\2+e+k * b ∉ T) {nb:Lq} (nbl:nb.length=256)
  {F pD:Nat} {D D':List Gc} (hp:h.get pD=some (.row 3 (D.map U4) false)) (Dl:D.length=a) (Dl':D'.length=a) (Dm:D'.all (Zbn (b - 2 - c / 4) c)=true) (pl:pD<h.next) (p32:q+9<=pD)
  (hF:∀ h2,h2.get pD=some (.row 3 (D.map U4) false)->Zb F [.c (.ptr pD (k * 3))] h2 (.tup []) (h2.put pD (.row 3 (D'.map U4) false))) :
  ∃ h',Zb 283 [.c (.ptr (n+13) 0),.c (.int .i64 (k:Int)),.g (pgL nb),.c (.slice pD 0 a 3),.c (.fn F [] [])] h (.w (.c (.int .i64 0))) h'/\HE n q a b c e cr md S T (Gp (Gp V (2+e+k * b) nb) 1 (Zeg D')) h'/\h.next<=h'.next/\∀ m,m<h.next->Out n q m->m≠pD->h'.get m=h.get m:=by
 obtain⟨g1,g2,g3,g4,g5,g6,g7,g8,g9,g10,g11⟩:=Z5 f
 have st:=Dc (b:=b) ka
 obtain⟨zb,hb⟩:∃ z,2+e+k * b=z:=⟨_,rfl⟩
 rw[hb] at s3 ⊢
 have zbl:zb<2+e+a * b:=oM
 have ob:=Df (z:=zb) (Z5 f) oM zbl
 obtain⟨nq,nx,n0⟩:=M.nx
 have bl:(pgL nb).length=256:=by rw[J7,nbl]
 have hB1:=fun {h:Hq} (M:HE n q a b c e cr md S T V h)=>M.put f ob zbl nbl s3.1 s3.2
 have hB2:=fun {V:Nat->Lq} {h:Hq} (M:HE n q a b c e cr md S T V h)=>M.put f (z:=1) (Xd a b c e) oM (Zcu D') s2.1 s2.2
 obtain⟨mB,hmB⟩:∃ x,pgL nb=x:=⟨_,rfl⟩
 obtain⟨Y,hY⟩:=xzE (pgL (Zeg D'))
 have Yl:Y.length=256:=by rw[<-hY,J7,Zcu]
 have hY':pgL (Fg (Ma D' 0 Br))=Y:=hY
 rw[hmB] at bl ⊢
 simp only[hmB] at hB1
 simp only[hY] at hB2
 refine Ow ?_
 refine Ym Hh Tryz.f283 ?_
 have Jf:=J4 @f @hb @bl @Nat.zero_add
 iterate 3 (first|refine Zn Hh Za Gl ?_|apply gS)
 refine Jq fun hA eA=>?_
 have nA:hA.next=h.next+1:=nxQ eA
 have kA:∀ m,m<h.next->hA.get m=h.get m:=kQ eA
 have bA:hA.get h.next=some (.row 256 [mB] false):=by rw[eA]; exact Zt
 clear eA
 have MA:=M.keep (h2:=hA) oM (fun m hm=>kA m oM)
 obtain⟨_,⟨knA,hsA⟩,⟨dkA,glA⟩,_⟩:=MA.cells
 unfold gdL gdD at glA
 obtain⟨hB,e1,MB,nB,kB⟩:=hB1 MA
 have c1:=N7 Hh e1
 have Jf:=Gq Jf @nA @bA @hsA @glA
 iterate 3 (first|refine Zn Hh (EY (EY Za (J3 Hh)) (Ms Hh)) Gl ?_|apply gS)
 iterate 6 (first|refine Goes.Zi Gl ?_|refine Zn Hh (Zj Za c1) Gl ?_|apply gS)
 have pB:=(kB pD ⟨oM,oM,oM,oM,oM⟩).trans ((kA _ pl).trans hp)
 have c2:=hF hB pB
 iterate 2 (first|refine Zn Hh (Zj Za c2) Gl ?_|apply gS)
 refine Jq fun hC eC=>?_
 have nC:hC.next=h.next+1:=by rw[eC,H.Zf,nB,nA]
 have kC:∀ m,m<h.next+1->Out n q m->m≠pD->hC.get m=hA.get m:=fun m hm ho hne=>by rw[eC,Zc hne]; exact kB m ho.1
 have pC:hC.get pD=some (.row 3 (D'.map U4) false):=by rw[eC,Zz]
 have MC:=MB.keep (h2:=hC) (by rw[eC,H.Zf]; omega) (fun m hm=>by rw[eC,Zc oM])
 clear eC
 obtain⟨stC,⟨knC,hsC⟩,⟨dkC,glC⟩,_⟩:=MC.cells
 unfold gdL gdD at glC
 have Jf:=Y2 Jf (Yp @nC @pC @hsC @glC @stC @Dl' @Dm @hY' @Yl)
 iterate 7 (first|refine Goes.Zi Gl ?_|refine Zn Hh (EY (EY Za (J3 Hh)) (Zww Hh)) Gl ?_|apply gS)
 refine Jq fun hD eD=>?_
 have nD:hD.next=h.next+2:=by rw[eD]; simp only[H.Zf,H.Ze,nC]
 have kD:∀ m,m<h.next+1->Out n q m->m≠pD->hD.get m=hA.get m:=fun m hm ho hne=>by rw[eD]; refine Eq.trans ?_ (kC m hm ho hne); exact Yn
 have bD:hD.get (h.next+1)=some (.row 256 [Y] false):=by rw[eD,<-nC]; exact Zt
 have MD:=MC.keep (h2:=hD) oM (fun m hm=>by rw[eD]; have:=MC.nx; exact Yn)
 clear eD
 obtain⟨hE,e3,ME,nE,kE⟩:=hB2 MD
 have c3:=N7 Hh e3
 have Jf:=Y2 Jf @bD
 iterate 2 (first|refine Zn Hh (Zj Za c3) Gl ?_|apply gS)
 exact⟨_,_,Yi,rfl,ME,oM,fun m hm ho hne=>(kE m ho.1).trans ((kD m oM ho hne).trans (kA m hm))⟩
end
end
end Go.Proofs.YtmanipmhebgdbaaGreatDoor
