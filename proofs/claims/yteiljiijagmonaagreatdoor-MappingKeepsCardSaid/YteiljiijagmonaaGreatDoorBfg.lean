/- Store.Busy, where no block was given back. -/
import Derived.Test.YteiljiijagmonaaGreatDoorMpx
set_option maxRecDepth 100000
set_option maxHeartbeats 4000000
set_option linter.unusedSimpArgs false
set_option linter.unusedVariables false
set_option linter.unusedSectionVars false
namespace Go.Proofs.YteiljiijagmonaaGreatDoor
open Go.Ev
noncomputable section
theorem ty249:K.types.get 249=some ti249:=kR
theorem sz249:ti249.size=1:=by rfl
theorem ag249:ti249.agg=false:=by rfl
theorem de249:ti249.desc=(.int .u64):=by rfl
theorem ze249:ti249.zero=(.c (.int .u64 0)):=by rfl
theorem by249:ti249.bytes=8:=by rfl
theorem ke249 (k:IntKind) (n:Int):Fe K 20 249 (.c (.int k n))=true:=kR
attribute [go_sem] ty249 sz249 ag249 de249 ze249 by249 ke249
theorem rs253:Tryz.f253.results.toList=[.tmp 2]:=rfl
theorem rs223:Tryz.f223.results.toList=[.tmp 2]:=rfl
theorem rs180:Tryz.f180.results.toList=[.tmp 2]:=rfl
theorem rs235:Tryz.f235.results.toList=[.tmp 4,.tmp 5]:=rfl
theorem rs210:Tryz.f210.results.toList=[.tmp 4]:=rfl
attribute [go_sem] rs253 rs223 rs180 rs235 rs210
def Zsx:Kn1:=fun args h=>match args with
 | [.c (.map m)]=>some (.w (.c (.fn 270 [] [some (h.next,0)])),h.new (.row 1 [[.map m]] false))
 | _=>none
def Z1u:Kn1:=fun args h=>match args with
 | [.c (.map m)]=>Yt (Om h m) (some (.w (.c .snil),h))
 | _=>none
def Znu:Kn1:=fun args h=>match args with
 | [.c (.ptr t 0)]=>(Uf h t).bind fun X=>Yt (Om h X.fr) (some (.w (.c .snil),h))
 | _=>none
def Z06:Kn1:=fun args h=>match args with
 | [.c .snil,.c (.int .i64 _)]=>some (.tup [.c (.int .i64 0),.c (.bool false)],h)
 | _=>none
def Zro:C->Bool
 | .snil=>true
 | _=>false
theorem Zwb {c:C} (e:Zro c=true):c=.snil:=by
 cases c<;>first|rfl|cases e
def Zew:Kn1:=fun args h=>match args with
 | [.c (.ptr s 0),.c (.int .i64 _)]=>(Da h s).bind fun S=>(Uf h S.tx).bind fun X=>Yt (Om h X.fr&&Zro S.bs) (some (.w (.c (.bool false)),bif S.kn then h else h.put s (.row 8 [stL { S with kn:=true }] false)))
 | _=>none
attribute [go_sem] Zsx Z1u Znu Z06 Zew Zro
section
variable (Hh:Hearts K Tryz.prog)
include Hh
theorem Zxh {args:List W} {h h':Hq} {v:V} (e:Zsx args h=some (v,h')):Zi 253 args h v h':=by
 unfold Zsx at e
 split at e
 ·cases e
  refine fnG Hh Tryz.f253 ?_
  repeat (first|apply Zu|apply Yc|refine Zr Hh Za Sm ?_)
  exact Zf
 ·cases e
theorem Z1v {args:List W} {h h':Hq} {v:V} (e:Z1u args h=some (v,h')):Zi 223 args h v h':=by
 unfold Z1u at e
 split at e
 ·rename_i m
  obtain⟨b,e⟩:=Zq.1 e
  have hm:=Yz b
  cases e
  refine Zy.tidy ⟨Tryz.f223,Tryz.func223,kR,by decide⟩ fun tidy=>?_
  have l2:=tidy _ _ hm
  refine X0 rfl ?_
  refine Y0 Hh Tryz.f223 ?_
  have Jf:=@hm
  repeat (first|apply Zu|apply Yc|refine Zr Hh (EY (EY Za (Zxh Hh)) (Rn Hh)) Z6 ?_)
  exact⟨_,_,Zf,rfl,fun j hj=>by exact Jg⟩
 ·cases e
theorem Ztm {args:List W} {h h':Hq} {v:V} (e:Znu args h=some (v,h')):Zi 180 args h v h':=by
 unfold Znu at e
 split at e
 ·rename_i t
  obtain⟨X,ht,e⟩:=Zj e
  have ht:=Yk ht
  obtain⟨b,e⟩:=Zq.1 e
  have hm:=Yz b
  cases e
  refine fnG Hh Tryz.f180 ?_
  have Jf:=Jl @ht @hm
  repeat (first|apply Zu|apply Ye|apply Yc|refine Goes.Zl Z6 ?_|refine Zr Hh (EY (EY Za (Uj Hh)) (Z1v Hh)) Z6 ?_)
  exact Zf
 ·cases e
theorem Zqi {args:List W} {h h':Hq} {v:V} (e:Z06 args h=some (v,h')):Zi 235 args h v h':=by
 unfold Z06 at e
 split at e
 ·cases e
  have lf:=G5
  have d0:decide ((0:Int)<0)=false:=rfl
  refine fnG Hh Tryz.f235 ?_
  have Jf:=Jl @lf @d0
  iterate 15 (first|refine Goes.Zl Ur ?_|refine Zr Hh Za Ur ?_|apply gS)
  refine Goes.ops2 fits Hh Za (by
   iterate 25 (refine Yv Ur ?_)
   exact Yu) ?_
  apply Yc
  exact Zf
 ·cases e
theorem Zxq {args:List W} {h h':Hq} {v:V} (e:Zew args h=some (v,h')):Zi 210 args h v h':=by
 unfold Zew at e
 split at e
 ·rename_i s z
  obtain⟨S,hs,e⟩:=Zj e
  have hs:=Y8 hs
  obtain⟨X,ht,e⟩:=Zj e
  have ht:=Yk ht
  obtain⟨b,e⟩:=Zq.1 e
  rw[aQ] at b
  have hm:=Yz b.1
  obtain⟨gd,tx,dt,gv,bs,kn⟩:=S
  have eb:bs=.snil:=Zwb b.2
  subst eb
  have n1:tx≠s:=fun e1=>by simp only[e1] at ht; rw[ht] at hs; cases hs
  have n2:X.fr≠s:=fun e1=>by rw[e1,hs] at hm; cases hm
  have pp:=@H.Zf5
  cases kn with
  | true =>
   cases e
   refine fnG Hh Tryz.f210 ?_
   have Jf:=Ju @hs @ht @hm
   iterate 17 (first|refine Goes.Zl Z6 ?_|refine Zr Hh (EY (EY Za (Oa Hh)) (Zqi Hh)) Z6 ?_|apply gS)
   exact Zf
  | false =>
   cases e
   refine fnG Hh Tryz.f210 ?_
   have Jf:=Ju @hs @ht @hm
   iterate 26 (first|refine Goes.Zl Gu ?_|refine Zr Hh (EY (EY (EY (EY Za (Oa Hh)) (Ztm Hh)) (Zlk Hh)) (Zqi Hh)) Gu ?_|apply gS)
   have Jf:=@pp; exact Zn
 ·cases e
end
section
variable {n q a b c e:Nat} {cr:Cr} {md:Int} {h:Hq} {S T:Lq} {V:Nat->Lq}
theorem HE.busy [Opn cr] (M:HE n q a b c e cr md S T V h) (z:Int):∃ h',Zew [.c (.ptr (n+13) 0),.c (.int .i64 z)] h=some (.w (.c (.bool false)),h')/\HE n q a b c e cr md S T V h'/\h'.next=h.next/\∀ m,m≠n+13->h'.get m=h.get m:=by
 obtain⟨d,d1,d2,kn,ld,lt,lc,lm,L,fl,sn,ft,fc,t5,vt,t7,t8,t9,tT,see,M⟩:=M
 have MM:=M
 obtain⟨f1,f2,f3,f4,l1,l2,f5,f6,f7,f8,f9,f10,f11,f12',f13,f14,f15,f16,f17,f18,f19,f20,f21,f22⟩:=M
 have f12:=f12'
 rw[Z0a (cr:=cr)] at f12
 have f12:=Nh.1 f12
 cases kn with
 | true=>exact⟨h,by unfold Zew; simp (maxSteps:=9^6) +decide (disch:=first|exact dZ|fail) only [go_sem,Zk,Zh,simprocAttr,f19,f5,f12]<;>rfl,⟨d,d1,d2,true,ld,lt,lc,lm,L,fl,sn,ft,fc,t5,vt,t7,t8,t9,tT,see,MM⟩,rfl,fun _ _=>rfl⟩
 | false =>
  refine⟨h.put (n+13) (.row 8 [stL (stH n q cr true)] false),by unfold Zew; simp (maxSteps:=9^6) +decide (disch:=first|exact dZ|fail) only [go_sem,Zk,Zh,simprocAttr,f19,f5,f12]<;>rfl,⟨d,d1,d2,true,ld,lt,lc,lm,L,fl,sn,ft,fc,t5,vt,t7,t8,t9,tT,see,?_⟩,rfl,fun m hm=>Zd hm⟩
  have db:=Zl8 q cr
  refine⟨?_,f2,f3,f4,l1,l2,?_,?_,?_,?_,?_,?_,?_,?_,?_,?_,?_,?_,f17,?_,Zx _ _ _,fun o=>?_,?_,?_⟩
  all_goals (rw[Zd oM]; first|assumption|exact f20 o)
end
open Go.Ev
theorem ty70:K.types.get 70=some ti70:=kR
theorem sz70:ti70.size=1:=by rfl
theorem ag70:ti70.agg=false:=by rfl
theorem de70:ti70.desc=(.pointer 66):=by rfl
theorem ze70:ti70.zero=(.c (.pnil)):=by rfl
theorem by70:ti70.bytes=8:=by rfl
attribute [go_sem] ty3 sz3 ag3 de3 ze3 by3 ke3 ty4 sz4 ag4 de4 ze4 by4 ty5 sz5 ag5 de5 ze5 by5 ke5 ty66 sz66 ag66 de66 ze66 by66 eq66 ty70 sz70 ag70 de70 ze70 by70
theorem rs187:Tryz.f187.results.toList=[.tmp 2]:=rfl
theorem rs188:Tryz.f188.results.toList=[.tmp 2]:=rfl
theorem rs163:Tryz.f163.results.toList=[.tmp 4]:=rfl
attribute [go_sem] rs187 rs188 rs163
def b8 (b0 b1 b2 b3 b4 b5 b6 b7:Bool):Nat:=b0.toNat+2 * b1.toNat+4 * b2.toNat+8 * b3.toNat+16 * b4.toNat+32 * b5.toNat+64 * b6.toNat+128 * b7.toNat
theorem Z8r:∀ b0 b1 b2 b3 b4 b5 b6 b7:Bool,b8 b0 b1 b2 b3 b4 b5 b6 b7<256:=by decide +kernel
theorem land8:∀ b0 b1 b2 b3 b4 b5 b6 b7:Bool,∀ j:Fin 8,Nat.land (b8 b0 b1 b2 b3 b4 b5 b6 b7) (2 ^ j.1)=if [b0,b1,b2,b3,b4,b5,b6,b7].getD j.1 false=true then 2 ^ j.1 else 0:=by decide +kernel
theorem lor8:∀ b0 b1 b2 b3 b4 b5 b6 b7:Bool,∀ j:Fin 8,Nat.lor (b8 b0 b1 b2 b3 b4 b5 b6 b7) (2 ^ j.1)=b8 (b0 || decide (j.1=0)) (b1 || decide (j.1=1)) (b2 || decide (j.1=2)) (b3 || decide (j.1=3)) (b4 || decide (j.1=4)) (b5 || decide (j.1=5)) (b6 || decide (j.1=6)) (b7 || decide (j.1=7)):=by decide +kernel
def byB (g:Nat->Bool) (t:Nat):Nat:=b8 (g (8 * t)) (g (8 * t+1)) (g (8 * t+2)) (g (8 * t+3)) (g (8 * t+4)) (g (8 * t+5)) (g (8 * t+6)) (g (8 * t+7))
def J6 (g:Nat->Bool):List C:=(List.range 256).map fun t=>C.int .u8 ((byB g t:Nat):Int)
def Zes (g:Nat->Bool) (i:Nat):Nat->Bool:=fun j=>g j || decide (j=i)
theorem Eb (g:Nat->Bool):(J6 g).length=256:=by simp [J6]
theorem Zau (g:Nat->Bool) (t:Nat) (h:t<256):(J6 g)[t]? = some (C.int .u8 ((byB g t:Nat):Int)):=by simp [J6,h]
theorem sel8 (g:Nat->Bool) (i:Nat):[g (8 * (i / 8)),g (8 * (i / 8)+1),g (8 * (i / 8)+2),g (8 * (i / 8)+3),g (8 * (i / 8)+4),g (8 * (i / 8)+5),g (8 * (i / 8)+6),g (8 * (i / 8)+7)].getD (i % 8) false=g i:=by
 have e:=Nat.div_add_mod i 8
 obtain⟨t,ht⟩:=xzE (i / 8)
 rw[ht] at e ⊢
 have hj:i % 8=0\/i % 8=1\/i % 8=2\/i % 8=3\/i % 8=4\/i % 8=5\/i % 8=6\/i % 8=7:=oM
 rcases hj with h|h|h|h|h|h|h|h<;>rw[h] at e ⊢ <;> rw[<-e]<;>rfl
theorem Zcj (g:Nat->Bool) (i:Nat):Nat.land (byB g (i / 8)) (2 ^ (i % 8))=if g i=true then 2 ^ (i % 8) else 0:=by
 have:=land8 (g (8 * (i / 8))) (g (8 * (i / 8)+1)) (g (8 * (i / 8)+2)) (g (8 * (i / 8)+3)) (g (8 * (i / 8)+4)) (g (8 * (i / 8)+5)) (g (8 * (i / 8)+6)) (g (8 * (i / 8)+7)) ⟨i % 8,oM⟩
 simp only[sel8] at this
 exact this
theorem Z22 (g:Nat->Bool) (i:Nat):Nat.lor (byB g (i / 8)) (2 ^ (i % 8))=byB (Zes g i) (i / 8):=by
 have:=lor8 (g (8 * (i / 8))) (g (8 * (i / 8)+1)) (g (8 * (i / 8)+2)) (g (8 * (i / 8)+3)) (g (8 * (i / 8)+4)) (g (8 * (i / 8)+5)) (g (8 * (i / 8)+6)) (g (8 * (i / 8)+7)) ⟨i % 8,oM⟩
 refine this.trans ?_
 have e:=Nat.div_add_mod i 8
 unfold byB Zes
 have q:∀ k,k<8->decide (i % 8=k)=decide (8 * (i / 8)+k=i):=fun k hk=>by
  rw[decide_eq_decide]
  omega
 have q0:=q 0 oM
 rw[Nat.add_zero] at q0
 simp only[q0,q 1 oM,q 2 oM,q 3 oM,q 4 oM,q 5 oM,q 6 oM,q 7 oM]
theorem Zvr (g:Nat->Bool) (i t:Nat) (h:t≠i / 8):byB (Zes g i) t=byB g t:=by
 unfold byB Zes
 have q:∀ k,k<8->decide (8 * t+k=i)=false:=fun k hk=>decide_eq_false oM
 have q0:=q 0 oM
 rw[Nat.add_zero] at q0
 simp only[q0,q 1 oM,q 2 oM,q 3 oM,q 4 oM,q 5 oM,q 6 oM,q 7 oM,Bool.or_false]
theorem Zwo (g:Nat->Bool) (i:Nat) (hi:i<2048):(J6 g).set (i / 8) (.int .u8 ((Nat.lor (byB g (i / 8)) (2 ^ (i % 8)):Nat):Int))=J6 (Zes g i):=by
 refine List.ext_getElem (by simp [J6]) fun t h1 h2=>?_
 rw[List.getElem_set]
 simp only[J6,List.getElem_map,List.getElem_range]
 by_cases e:i / 8=t
 ·rw[if_pos e,Z22,e]
 ·rw[if_neg e,Zvr _ _ _ (fun x=>e x.symm)]
theorem Lh (g:Nat->Bool) (t:Nat):byB g t<256:=Z8r ..
theorem R7 (i:Nat):2 ^ (i % 8)<256:=Nat.lt_of_lt_of_le (Nat.pow_lt_pow_right oM (show i % 8<8 by omega)) dM
theorem lor256 {a b:Nat} (ha:a<256) (hb:b<256):Nat.lor a b<256:=Nat.or_lt_two_pow (n:=8) ha hb
theorem land256 {a b:Nat} (ha:a<256):Nat.land a b<256:=Nat.lt_of_le_of_lt Nat.and_le_left ha
section
variable (Hh:Hearts K Tryz.prog)
include Hh
theorem isOk (h:Hq) (i:Nat) (hi:i<2048):Zi 187 [.c (.int .i64 i)] h (.w (.c (.bool true))) h:=by
 refine fnG Hh Tryz.f187 ?_
 iterate 5 (first|apply Zu|apply Yc|refine Zr Hh Za Zf ?_)
 exact Zf
theorem Zmo (h:Hq) (i:Nat):Zi 188 [.c (.int .i64 i)] h (.w (.c (.int .u8 ((2 ^ (i % 8):Nat):Int)))) h:=by
 have r1:T9 .i64 (i:Int) 8=some (.int .i64 ((i % 8:Nat):Int)):=Sa (b:=8) oM
 have s1:Zbn .u8 1 ((i % 8:Nat):Int)=some (.int .u8 ((2 ^ (i % 8):Nat):Int)):=by
  have h8:=R7 i
  unfold Zbn
  rw[decide_eq_false oM,cond_false]
  have e:min ((i % 8:Nat):Int).toNat IntKind.u8.bits=i % 8:=by
   show min ((i % 8:Nat):Int).toNat 8=i % 8
   omega
  rw[e,Int.one_mul,Zf7 ⟨Int.pow_nonneg oM,by exact_mod_cast h8⟩]
  congr 2
 refine fnG Hh Tryz.f188 ?_
 have Jf:=Jl @r1 @s1
 iterate 5 (first|apply Zu|apply Yc|refine Zr Hh Za Zn ?_)
 exact Zn
theorem Z98 (h:Hq) (b i:Nat) (g:Nat->Bool) (hi:i<2048) (hg:g i=false) (hb:h.get b=some (.row 256 [J6 g] false)):Zi 163 [.c (.ptr b 0),.c (.int .i64 i)] h (.w (.c (.bool true))) (h.put b (.row 256 [J6 (Zes g i)] false)):=by
 have c1:=isOk Hh h i hi
 have c2:=Zmo Hh h i
 have q1:R6 .i64 (i:Int) 8=some (.int .i64 ((i / 8:Nat):Int)):=Nj (b:=8) oM oM
 have rd:read1 256 [J6 g] (i / 8)=some (.int .u8 ((byB g (i / 8):Nat):Int)):=by
  unfold read1
  rw[Nat.div_eq_of_lt oM,Nat.mod_eq_of_lt oM,List.getElem?_cons_zero]
  exact Zau g _ oM
 have wr:Z5 256 [J6 g] (i / 8) [.int .u8 ((Nat.lor (byB g (i / 8)) (2 ^ (i % 8)):Nat):Int)]=some [J6 (Zes g i)]:=by
  simp only[Z5]
  rw[Nat.div_eq_of_lt oM,Nat.mod_eq_of_lt oM,List.getElem?_cons_zero]
  simp only[Eb]
  rw[Zci oM,cond_true,Zwo g i hi]
  rfl
 have l1:Bc .u8 Nat.land ((byB g (i / 8):Nat):Int) ((2 ^ (i % 8):Nat):Int)=.int .u8 ((0:Nat):Int):=by
  rw[Zjw (Lh _ _) (R7 _) (land256 (Lh _ _)),Zcj,hg]
  rfl
 have l2:Bc .u8 Nat.lor ((byB g (i / 8):Nat):Int) ((2 ^ (i % 8):Nat):Int)=.int .u8 ((Nat.lor (byB g (i / 8)) (2 ^ (i % 8)):Nat):Int):=Zjw (Lh _ _) (R7 _) (lor256 (Lh _ _) (R7 _))
 refine fnG Hh Tryz.f163 ?_
 have Jf:=Nt @q1 @rd @wr @l1 @l2 @hb
 iterate 4 (first|apply Zu|refine Zr Hh Za Zn ?_)
 iterate 4 (first|apply Zu|apply Ye|refine Goes.Zl Zn ?_|refine G6 Hh (Zp (Zp Za c1) c2) Tc ?_)
 iterate 4 (first|apply Zu|apply Yc|refine Zr Hh (Zp Za c2) Zn ?_|refine G6 Hh (Zp Za c2) Tc ?_)
 exact Zn
end
open Go.Ev
theorem Zbu {sz k j:Nat} {L:List (List C)} {x:List C} {c:C} (hx:L[k]? = some x) (xl:x.length=sz) (hj:j<sz):Z5 sz L (k * sz+j) [c]=some (L.set k (x.set j c)):=by
 have e1:(k * sz+j) / sz=k:=by rw[Nat.mul_comm,Nat.mul_add_div oM,Nat.div_eq_of_lt hj,Nat.add_zero]
 have e2:(k * sz+j) % sz=j:=by rw[Nat.mul_comm,Nat.mul_add_mod,Nat.mod_eq_of_lt hj]
 simp only[Z5,e1,e2,hx]
 rw[Zci oM,cond_true]
def Zfm (g:Nat->Bool):Lq:=(List.range 256).map (byB g)
theorem Zoc (g:Nat->Bool):(Zfm g).length=256:=by simp [Zfm]
theorem Zgn (g:Nat->Bool):J6 g=pgL (Zfm g):=by
 unfold J6 pgL Zfm
 rw[List.map_map]
 refine List.map_congr_left fun t _=>?_
 show C.int .u8 ((byB g t:Nat):Int)=.int .u8 ((byB g t % 256:Nat):Int)
 rw[Nat.mod_eq_of_lt (Lh g t)]
def Zgw (D:List Oq):Lq:=Et (Lj D 0 Bg)
theorem Zco (D:List Oq):(Zgw D).length=256:=by unfold Zgw; rw[Et,Qx,Zgv]; exact Zn0
def Des (V:Nat->Lq) (a b c:Nat) (D:List Oq):Prop:=goodD (V 1) a b c=true/\Dc (V 1) a 0=D/\D.length=a
noncomputable def q209 (p:Lq):Code:=piece p (Ug Tryz.f209)
theorem rs209:Tryz.f209.results.toList=[.tmp 6]:=rfl
attribute [go_sem] rs209
section
variable (Hh:Hearts K Tryz.prog)
include Hh
theorem Zv4 (g:Nat->Bool) {p t u:Nat} (tu:t<=u) (u2:u<=2048) (ht:t<u->g t=false) {h:Hq} (hp:h.get p=some (.row 256 [J6 g] false)):∀ (k i:Nat) (ts:Zw),i+k=t->(∀ j,i<=j->j<t->g j=true)->Ze ts 3=.w (.c (.ptr p 0))->Ze ts 2=.w (.c (.int .i64 (u:Int)))->Ze ts 7=.w (.c (.int .i64 (i:Int))) ->
  Z7 27 none (q209 [1,1,0,1,2]) [] ts h fun x ds' ts' h'=>((t<u/\x=.ret/\Ze ts' 6=.w (.c (.int .i64 (t:Int))))\/(t=u/\x=.exit 0))/\ds'=[]/\h'=h:=by
 intro k
 induction k with
 | zero =>
  intro i ts hi _ t3 t2 t7
  obtain rfl:i=t:=oM
  rcases Nat.lt_or_ge i u with lt|ge
  ·have gi:=ht lt
   have cm:=fun h=>Zmo Hh h i
   have q1:R6 .i64 (i:Int) 8=some (.int .i64 ((i / 8:Nat):Int)):=Nj (b:=8) oM oM
   have rd:read1 256 [J6 g] (i / 8)=some (.int .u8 ((byB g (i / 8):Nat):Int)):=by
    unfold read1
    rw[Nat.div_eq_of_lt oM,Nat.mod_eq_of_lt oM,List.getElem?_cons_zero]
    exact Zau g _ oM
   have l1:Bc .u8 Nat.land ((byB g (i / 8):Nat):Int) ((2 ^ (i % 8):Nat):Int)=.int .u8 ((0:Nat):Int):=by
    rw[Zjw (Lh _ _) (R7 _) (land256 (Lh _ _)),Zcj,gi]
    rfl
   have Jf:=El @t2 @t3 @t7 @hp @q1 @rd @l1
   iterate 9 (first|refine Goes.Zl Zn ?_|refine Zr Hh Za Zn ?_|apply gS)
   iterate 5 (first|refine Goes.Zl Zn ?_|refine Zr Hh (Jj Za cm) Zn ?_|refine G6 Hh (Jj Za cm) Tc ?_|apply gS)
   refine⟨.inl ⟨lt,rfl,?_⟩,rfl,rfl⟩
   exact Zn
  ·obtain rfl:i=u:=oM
   have Jf:=Jl @t2 @t7
   iterate 6 (first|refine Goes.Zl Zn ?_|refine Zr Hh Za Zn ?_|apply gS)
   exact⟨.inr ⟨rfl,rfl⟩,rfl,rfl⟩
 | succ k ih =>
  intro i ts hi all t3 t2 t7
  have gi:=all i oM oM
  have cm:=fun h=>Zmo Hh h i
  have q1:R6 .i64 (i:Int) 8=some (.int .i64 ((i / 8:Nat):Int)):=Nj (b:=8) oM oM
  have rd:read1 256 [J6 g] (i / 8)=some (.int .u8 ((byB g (i / 8):Nat):Int)):=by
   unfold read1
   rw[Nat.div_eq_of_lt oM,Nat.mod_eq_of_lt oM,List.getElem?_cons_zero]
   exact Zau g _ oM
  have p1:0<2 ^ (i % 8):=Nat.pow_pos oM
  have e1:(((2 ^ (i % 8):Nat):Int) == 0)=false:=U7 (by exact_mod_cast (Nat.pos_iff_ne_zero.1 p1))
  have l1:Bc .u8 Nat.land ((byB g (i / 8):Nat):Int) ((2 ^ (i % 8):Nat):Int)=.int .u8 ((2 ^ (i % 8):Nat):Int):=by
   rw[Zjw (Lh _ _) (R7 _) (land256 (Lh _ _)),Zcj,gi]
   rfl
  have Jf:=Lg @t2 @t3 @t7 @hp @q1 @rd @l1 @e1
  iterate 9 (first|refine Goes.Zl Zn ?_|refine Zr Hh Za Zn ?_|apply gS)
  iterate 4 (first|refine Goes.Zl Zn ?_|refine Zr Hh (Jj Za cm) Zn ?_|refine G6 Hh (Jj Za cm) Tc ?_|apply gS)
  show Z7 27 none (q209 [1,1,0,1,2]) _ _ _ _
  refine ih (i+1) _ oM (fun j h1 h2=>all j oM h2) ?_ ?_ ?_
  ·have Jf:=@t3; exact Zn
  ·have Jf:=@t2; exact Zn
  ·exact Zf
theorem Z6z (g:Nat->Bool) {s t u:Nat} (st:s<=t) (tu:t<=u) (u2:u<=2048) (all:∀ j,s<=j->j<t->g j=true) (ht:t<u->g t=false) (h:Hq):Zi 209 [.g (J6 g),.c (.int .i64 (s:Int)),.c (.int .i64 (u:Int))] h (.w (.c (.int .i64 (if t<u then (t:Int) else -1)))) h:=by
 have mx:max (s:Int) 0=(s:Int):=oM
 have mn:min (u:Int) 2048=(u:Int):=oM
 have mi:¬(2048<(u:Int)):=oM
 have mj:¬((s:Int)<0):=oM
 have pl:=Eb g
 have lp:=fun (h:Hq) (p:Nat) hp=>Zv4 Hh g tu u2 ht (h:=h) (p:=p) hp (t - s) s
 obtain⟨G,hG⟩:=xzE (J6 g)
 rw[hG] at pl ⊢
 simp only[hG] at lp
 refine X0 rfl ?_
 refine Y0 Hh Tryz.f209 ?_
 iterate 8 (first|(apply Goes.ops2 fits Hh Za; · simp (maxSteps:=9^6) +decide (disch:=first|exact dZ|fail) only [go_sem,Zh,simprocAttr,mx,mn,mi,mj,pl,if_neg,if_false,Zt,Yy,read1]<;>rfl)|apply gS)
 refine (lp _ h.next ?_ _ oM all ?_ ?_ ?_).mono ?_
 ·have Jf:=@pl; exact Z0
 ·exact Y6
 ·simp (maxSteps:=9^6) +decide (disch:=first|exact dZ|fail) only [go_sem,Zh,simprocAttr,mx,mn,mi,mj,if_neg,if_false]<;>rfl
 ·simp (maxSteps:=9^6) +decide (disch:=first|exact dZ|fail) only [go_sem,Zh,simprocAttr,mx,mn,mi,mj,if_neg,if_false]<;>rfl
 rintro x ds' ts' h' ⟨hx,rfl,rfl⟩
 rcases hx with ⟨lt,rfl,t6⟩|⟨rfl,rfl⟩
 ·rw[if_pos lt]
  exact⟨_,_,(by have Jf:=@t6; exact Zn),rfl,fun m hm=>by exact Jg⟩
 ·rw[if_neg (Nat.lt_irrefl _)]
  iterate 3 (first|refine Zr Hh Za Zf ?_|apply gS)
  exact⟨_,_,Zf,rfl,fun m hm=>by exact Jg⟩
end
end
end Go.Proofs.YteiljiijagmonaaGreatDoor
