/- Store.Busy, where no block was given back. -/
import Derived.Test.YtecakmodlkbnaaaGreatDoorMpg
import Derived.Test.YtecakmodlkbnaaaGreatDoorEvC
import Derived.Test.YtecakmodlkbnaaaGreatDoorTxn2
import Derived.Test.YtecakmodlkbnaaaGreatDoorStrX
import Derived.Test.YtecakmodlkbnaaaGreatDoorCrcX
set_option linter.unusedSimpArgs false
set_option linter.unusedVariables false
set_option linter.unusedSectionVars false
set_option maxRecDepth 100000
set_option maxHeartbeats 4000000
namespace Go.Proofs.YtecakmodlkbnaaaGreatDoor
open Go.Ev
theorem ty296:K.types.get 296=some ti296:=by kernel_rfl
theorem sz296:ti296.size=1:=by rfl
theorem ag296:ti296.agg=false:=by rfl
theorem de296:ti296.desc=(.int .u64):=by rfl
theorem ze296:ti296.zero=(.c (.int .u64 0)):=by rfl
theorem by296:ti296.bytes=8:=by rfl
theorem ke296 (k:IntKind) (n:Int):Fb K 20 296 (.c (.int k n))=true:=by kernel_rfl
attribute [go_sem] ty296 sz296 ag296 de296 ze296 by296 ke296
theorem rs251:Tryz.f251.results.toList=[.tmp 2]:=rfl
theorem rs211:Tryz.f211.results.toList=[.tmp 2]:=rfl
theorem rs175:Tryz.f175.results.toList=[.tmp 2]:=rfl
theorem rs278:Tryz.f278.results.toList=[.tmp 4,.tmp 5]:=rfl
theorem rs262:Tryz.f262.results.toList=[.tmp 4]:=rfl
attribute [go_sem] rs251 rs211 rs175 rs278 rs262
noncomputable def Zst:Kn1:=fun args h=>match args with
 | [.c (.map m)]=>some (.w (.c (.fn 271 [] [some (h.next,0)])),h.new (.row 1 [[.map m]] false))
 | _=>none
noncomputable def Z2v:Kn1:=fun args h=>match args with
 | [.c (.map m)]=>Y8 (Gy h m) (some (.w (.c .snil),h))
 | _=>none
noncomputable def Zm9:Kn1:=fun args h=>match args with
 | [.c (.ptr t 0)]=>(Gn h t).bind fun X=>Y8 (Gy h X.fr) (some (.w (.c .snil),h))
 | _=>none
noncomputable def Z0m:Kn1:=fun args h=>match args with
 | [.c .snil,.c (.int .i64 _)]=>some (.tup [.c (.int .i64 0),.c (.bool false)],h)
 | _=>none
def Zsk:C→Bool
 | .snil=>true
 | _=>false
theorem Zxr {c:C} (e:Zsk c=true):c=.snil:=by
 cases c<;>first|rfl|cases e
noncomputable def Zdy:Kn1:=fun args h=>match args with
 | [.c (.ptr s 0),.c (.int .i64 _)]=>(Br h s).bind fun S=>(Gn h S.tx).bind fun X=>Y8 (Gy h X.fr&&Zsk S.bs) (some (.w (.c (.bool false)),bif S.kn then h else h.put s (.row 8 [stL { S with kn:=true }] false)))
 | _=>none
attribute [go_sem] Zst Z2v Zm9 Z0m Zdy Zsk
section
variable (Hh:Hearts K Tryz.prog)
include Hh
theorem Zyi {args:List W} {h h':Go.Ev.H} {v:V} (e:Zst args h=some (v,h')):Zg 251 args h v h':=by
 unfold Zst at e
 split at e
 ·cases e
  refine fnG Hh Tryz.f251 ?_
  repeat (first|apply Zk|apply Z0|refine Zq Hh Za Rw ?_)
  exact Zc
 ·cases e
theorem Zzy {args:List W} {h h':Go.Ev.H} {v:V} (e:Z2v args h=some (v,h')):Zg 211 args h v h':=by
 unfold Z2v at e
 split at e
 ·rename_i m
  obtain⟨b,e⟩:=Zu.1 e
  have hm:=Y6 b
  cases e
  refine Zy.tidy ⟨Tryz.f211,Tryz.func211,by kernel_rfl,by decide⟩ fun tidy=>?_
  have l2:=tidy _ _ hm
  refine Gt rfl ?_
  refine Yg Hh Tryz.f211 ?_
  have Jf:=@hm
  repeat (first|apply Zk|apply Z0|refine Zq Hh (EY (EY Za (Zyi Hh)) (Zg8 Hh)) Yq ?_)
  exact⟨_,_,Zc,rfl,fun j hj=>by exact Yc⟩
 ·cases e
theorem Zrr {args:List W} {h h':Go.Ev.H} {v:V} (e:Zm9 args h=some (v,h')):Zg 175 args h v h':=by
 unfold Zm9 at e
 split at e
 ·rename_i t
  obtain⟨X,ht,e⟩:=Zo e
  have ht:=Y4 ht
  obtain⟨b,e⟩:=Zu.1 e
  have hm:=Y6 b
  cases e
  refine fnG Hh Tryz.f175 ?_
  have Jf:=Yy @ht @hm
  repeat (first|apply Zk|apply Zw|apply Z0|refine Goes.Zi Yq ?_|refine Zq Hh (EY (EY Za (Gr Hh)) (Zzy Hh)) Yq ?_)
  exact Zc
 ·cases e
theorem Zqt {args:List W} {h h':Go.Ev.H} {v:V} (e:Z0m args h=some (v,h')):Zg 278 args h v h':=by
 unfold Z0m at e
 split at e
 ·cases e
  have lf:=Zpu
  have d0:decide ((0:Int)<0)=false:=rfl
  refine fnG Hh Tryz.f278 ?_
  have Jf:=Yy @lf @d0
  iterate 15 (first|apply Zk|apply Yt|apply Ux|apply Je|refine Goes.Zi Ur ?_|refine Zq Hh Za Ur ?_)
  refine Goes.ops2 fits Hh Za (by
   iterate 25 (refine Zbg Ur ?_)
   exact Zbt) ?_
  apply Z0
  exact Zc
 ·cases e
theorem Zwv {args:List W} {h h':Go.Ev.H} {v:V} (e:Zdy args h=some (v,h')):Zg 262 args h v h':=by
 unfold Zdy at e
 split at e
 ·rename_i s z
  obtain⟨S,hs,e⟩:=Zo e
  have hs:=Jc hs
  obtain⟨X,ht,e⟩:=Zo e
  have ht:=Y4 ht
  obtain⟨b,e⟩:=Zu.1 e
  rw[Bool.and_eq_true] at b
  have hm:=Y6 b.1
  obtain⟨gd,tx,dt,gv,bs,kn⟩:=S
  have eb:bs=.snil:=Zxr b.2
  subst eb
  have n1:tx≠s:=fun e1=>by simp only[e1] at ht; rw[ht] at hs; cases hs
  have n2:X.fr≠s:=fun e1=>by rw[e1,hs] at hm; cases hm
  have pp:=@H.Zal
  cases kn with
  | true =>
   cases e
   refine fnG Hh Tryz.f262 ?_
   have Jf:=Jb @hs @ht @hm
   iterate 17 (first|apply Zk|apply Zw|apply Z0|refine Goes.Zi Yq ?_|refine Zq Hh (EY (EY Za (Ox Hh)) (Zqt Hh)) Yq ?_)
   exact Zc
  | false =>
   cases e
   refine fnG Hh Tryz.f262 ?_
   have Jf:=Jb @hs @ht @hm
   iterate 26 (first|apply Zk|apply Zw|apply Z0|refine Goes.Zi Zcz ?_|refine Zq Hh (EY (EY (EY (EY Za (Ox Hh)) (Zrr Hh)) (Zll Hh)) (Zqt Hh)) Zcz ?_)
   have Jf:=@pp; exact Zj
 ·cases e
end
section
variable {n q a b c e:Nat} {cr:Cr} {md:Int} {h:Go.Ev.H} {S T:List Nat} {V:Nat→List Nat}
theorem HE.busy (M:HE n q a b c e cr md S T V h) (z:Int):∃ h',Zdy [.c (.ptr (n+13) 0),.c (.int .i64 z)] h=some (.w (.c (.bool false)),h')∧HE n q a b c e cr md S T V h'∧h'.next=h.next∧∀ m,m≠n+13→h'.get m=h.get m:=by
 obtain⟨d,d1,d2,kn,ld,lt,lc,lm,L,fl,sn,ft,fc,t5,vt,t7,t8,t9,tT,see,M⟩:=M
 have MM:=M
 obtain⟨f1,f2,f3,f4,l1,l2,f5,f6,f7,f8,f9,f10,f11,f12,f13,f14,f15,f16,f17,f18,f19,f20,f21⟩:=M
 cases kn with
 | true=>exact⟨h,by unfold Zdy; simp (maxSteps:=9^6) +decide (disch:=first|omega|(simp only[lens]<;>omega)|decide) only [go_sem,Zn,Zm,simprocAttr,f19,stG,f5,txC,f12]<;>rfl,⟨d,d1,d2,true,ld,lt,lc,lm,L,fl,sn,ft,fc,t5,vt,t7,t8,t9,tT,see,MM⟩,rfl,fun _ _=>rfl⟩
 | false =>
  refine⟨h.put (n+13) (.row 8 [stL (stG n q true)] false),by unfold Zdy; simp (maxSteps:=9^6) +decide (disch:=first|omega|(simp only[lens]<;>omega)|decide) only [go_sem,Zn,Zm,simprocAttr,f19,stG,f5,txC,f12]<;>rfl,⟨d,d1,d2,true,ld,lt,lc,lm,L,fl,sn,ft,fc,t5,vt,t7,t8,t9,tT,see,?_⟩,rfl,fun m hm=>Ze hm⟩
  refine⟨?_,f2,f3,f4,l1,l2,?_,?_,?_,?_,?_,?_,?_,?_,?_,?_,?_,?_,?_,?_,Zz _ _ _,?_,?_⟩
  all_goals (rw[Ze (by omega)]; assumption)
end
end Go.Proofs.YtecakmodlkbnaaaGreatDoor
set_option maxRecDepth 100000
namespace Go.Proofs.YtecakmodlkbnaaaGreatDoor
open Go.Ev
attribute [go_sem] ty3 sz3 ag3 de3 ze3 by3 ke3 ty4 sz4 ag4 de4 ze4 by4 ty5 sz5 ag5 de5 ze5 by5 ke5 ty99 sz99 ag99 de99 ze99 by99 eq99 ty106 sz106 ag106 de106 ze106 by106
theorem rs107:Tryz.f107.results.toList=[.tmp 2]:=rfl
theorem rs106:Tryz.f106.results.toList=[.tmp 2]:=rfl
theorem rs50:Tryz.f50.results.toList=[.tmp 4]:=rfl
attribute [go_sem] rs107 rs106 rs50
def b8 (b0 b1 b2 b3 b4 b5 b6 b7:Bool):Nat:=b0.toNat+2 * b1.toNat+4 * b2.toNat+8 * b3.toNat+16 * b4.toNat+32 * b5.toNat+64 * b6.toNat+128 * b7.toNat
theorem Ya4:∀ b0 b1 b2 b3 b4 b5 b6 b7:Bool,b8 b0 b1 b2 b3 b4 b5 b6 b7<256:=by decide +kernel
theorem land8:∀ b0 b1 b2 b3 b4 b5 b6 b7:Bool,∀ j:Fin 8,Nat.land (b8 b0 b1 b2 b3 b4 b5 b6 b7) (2 ^ j.1)=if [b0,b1,b2,b3,b4,b5,b6,b7].getD j.1 false=true then 2 ^ j.1 else 0:=by decide +kernel
theorem lor8:∀ b0 b1 b2 b3 b4 b5 b6 b7:Bool,∀ j:Fin 8,Nat.lor (b8 b0 b1 b2 b3 b4 b5 b6 b7) (2 ^ j.1)=b8 (b0 || decide (j.1=0)) (b1 || decide (j.1=1)) (b2 || decide (j.1=2)) (b3 || decide (j.1=3)) (b4 || decide (j.1=4)) (b5 || decide (j.1=5)) (b6 || decide (j.1=6)) (b7 || decide (j.1=7)):=by decide +kernel
def byB (g:Nat→Bool) (t:Nat):Nat:=b8 (g (8 * t)) (g (8 * t+1)) (g (8 * t+2)) (g (8 * t+3)) (g (8 * t+4)) (g (8 * t+5)) (g (8 * t+6)) (g (8 * t+7))
def Jd (g:Nat→Bool):List C:=(List.range 256).map fun t=>C.int .u8 ((byB g t:Nat):Int)
def Mq (g:Nat→Bool) (i:Nat):Nat→Bool:=fun j=>g j || decide (j=i)
theorem Uu (g:Nat→Bool):(Jd g).length=256:=by simp [Jd]
theorem Zel (g:Nat→Bool) (t:Nat) (h:t<256):(Jd g)[t]? = some (C.int .u8 ((byB g t:Nat):Int)):=by simp [Jd,h]
theorem sel8 (g:Nat→Bool) (i:Nat):[g (8 * (i / 8)),g (8 * (i / 8)+1),g (8 * (i / 8)+2),g (8 * (i / 8)+3),g (8 * (i / 8)+4),g (8 * (i / 8)+5),g (8 * (i / 8)+6),g (8 * (i / 8)+7)].getD (i % 8) false=g i:=by
 have e:=Nat.div_add_mod i 8
 obtain⟨t,ht⟩:∃ t,i / 8=t:=⟨_,rfl⟩
 rw[ht] at e ⊢
 have hj:i % 8=0∨i % 8=1∨i % 8=2∨i % 8=3∨i % 8=4∨i % 8=5∨i % 8=6∨i % 8=7:=by omega
 rcases hj with h|h|h|h|h|h|h|h<;>rw[h] at e ⊢ <;> rw[←e]<;>rfl
theorem Zg4 (g:Nat→Bool) (i:Nat):Nat.land (byB g (i / 8)) (2 ^ (i % 8))=if g i=true then 2 ^ (i % 8) else 0:=by
 have:=land8 (g (8 * (i / 8))) (g (8 * (i / 8)+1)) (g (8 * (i / 8)+2)) (g (8 * (i / 8)+3)) (g (8 * (i / 8)+4)) (g (8 * (i / 8)+5)) (g (8 * (i / 8)+6)) (g (8 * (i / 8)+7)) ⟨i % 8,by omega⟩
 simp only[sel8] at this
 exact this
theorem Z5c (g:Nat→Bool) (i:Nat):Nat.lor (byB g (i / 8)) (2 ^ (i % 8))=byB (Mq g i) (i / 8):=by
 have:=lor8 (g (8 * (i / 8))) (g (8 * (i / 8)+1)) (g (8 * (i / 8)+2)) (g (8 * (i / 8)+3)) (g (8 * (i / 8)+4)) (g (8 * (i / 8)+5)) (g (8 * (i / 8)+6)) (g (8 * (i / 8)+7)) ⟨i % 8,by omega⟩
 refine this.trans ?_
 have e:=Nat.div_add_mod i 8
 unfold byB Mq
 have q:∀ k,k<8→decide (i % 8=k)=decide (8 * (i / 8)+k=i):=fun k hk=>by
  rw[decide_eq_decide]
  omega
 have q0:=q 0 (by omega)
 rw[Nat.add_zero] at q0
 simp only[q0,q 1 (by omega),q 2 (by omega),q 3 (by omega),q 4 (by omega),q 5 (by omega),q 6 (by omega),q 7 (by omega)]
theorem Zwl (g:Nat→Bool) (i t:Nat) (h:t≠i / 8):byB (Mq g i) t=byB g t:=by
 unfold byB Mq
 have q:∀ k,k<8→decide (8 * t+k=i)=false:=fun k hk=>decide_eq_false (by omega)
 have q0:=q 0 (by omega)
 rw[Nat.add_zero] at q0
 simp only[q0,q 1 (by omega),q 2 (by omega),q 3 (by omega),q 4 (by omega),q 5 (by omega),q 6 (by omega),q 7 (by omega),Bool.or_false]
theorem Zyl (g:Nat→Bool) (i:Nat) (hi:i<2048):(Jd g).set (i / 8) (.int .u8 ((Nat.lor (byB g (i / 8)) (2 ^ (i % 8)):Nat):Int))=Jd (Mq g i):=by
 refine List.ext_getElem (by simp [Jd]) fun t h1 h2=>?_
 rw[List.getElem_set]
 simp only[Jd,List.getElem_map,List.getElem_range]
 by_cases e:i / 8=t
 ·rw[if_pos e,Z5c,e]
 ·rw[if_neg e,Zwl _ _ _ (fun x=>e x.symm)]
theorem Rl (g:Nat→Bool) (t:Nat):byB g t<256:=Ya4 ..
theorem Q6 (i:Nat):2 ^ (i % 8)<256:=Nat.lt_of_lt_of_le (Nat.pow_lt_pow_right (by omega) (show i % 8<8 by omega)) (by decide)
theorem lor256 {a b:Nat} (ha:a<256) (hb:b<256):Nat.lor a b<256:=Nat.or_lt_two_pow (n:=8) ha hb
theorem land256 {a b:Nat} (ha:a<256):Nat.land a b<256:=Nat.lt_of_le_of_lt Nat.and_le_left ha
section
variable (Hh:Hearts K Tryz.prog)
include Hh
theorem isOk (h:Go.Ev.H) (i:Nat) (hi:i<2048):Zg 107 [.c (.int .i64 i)] h (.w (.c (.bool true))) h:=by
 refine fnG Hh Tryz.f107 ?_
 iterate 5 (first|apply Zk|apply Z0|refine Zq Hh Za Zc ?_)
 exact Zc
theorem Zrn (h:Go.Ev.H) (i:Nat):Zg 106 [.c (.int .i64 i)] h (.w (.c (.int .u8 ((2 ^ (i % 8):Nat):Int)))) h:=by
 have r1:Np .i64 (i:Int) 8=some (.int .i64 ((i % 8:Nat):Int)):=Em (b:=8) (by omega)
 have s1:Qc .u8 1 ((i % 8:Nat):Int)=some (.int .u8 ((2 ^ (i % 8):Nat):Int)):=by
  have h8:=Q6 i
  unfold Qc
  rw[decide_eq_false (by omega),cond_false]
  have e:min ((i % 8:Nat):Int).toNat IntKind.u8.bits=i % 8:=by
   show min ((i % 8:Nat):Int).toNat 8=i % 8
   omega
  rw[e,Int.one_mul,Zgg ⟨Int.pow_nonneg (by omega),by exact_mod_cast h8⟩]
  congr 2
 refine fnG Hh Tryz.f106 ?_
 have Jf:=Yy @r1 @s1
 iterate 5 (first|apply Zk|apply Z0|refine Zq Hh Za Zj ?_)
 exact Zj
theorem Zuz (h:Go.Ev.H) (b i:Nat) (g:Nat→Bool) (hi:i<2048) (hg:g i=false) (hb:h.get b=some (.row 256 [Jd g] false)):Zg 50 [.c (.ptr b 0),.c (.int .i64 i)] h (.w (.c (.bool true))) (h.put b (.row 256 [Jd (Mq g i)] false)):=by
 have c1:=isOk Hh h i hi
 have c2:=Zrn Hh h i
 have q1:Mk .i64 (i:Int) 8=some (.int .i64 ((i / 8:Nat):Int)):=Ea (b:=8) (by omega) (by omega)
 have rd:read1 256 [Jd g] (i / 8)=some (.int .u8 ((byB g (i / 8):Nat):Int)):=by
  unfold read1
  rw[Nat.div_eq_of_lt (by omega),Nat.mod_eq_of_lt (by omega),List.getElem?_cons_zero]
  exact Zel g _ (by omega)
 have wr:Z4 256 [Jd g] (i / 8) [.int .u8 ((Nat.lor (byB g (i / 8)) (2 ^ (i % 8)):Nat):Int)]=some [Jd (Mq g i)]:=by
  simp only[Z4]
  rw[Nat.div_eq_of_lt (by omega),Nat.mod_eq_of_lt (by omega),List.getElem?_cons_zero]
  simp only[Uu]
  rw[Qm (by omega),cond_true,Zyl g i hi]
  rfl
 have l1:Dc .u8 Nat.land ((byB g (i / 8):Nat):Int) ((2 ^ (i % 8):Nat):Int)=.int .u8 ((0:Nat):Int):=by
  rw[Zvk (Rl _ _) (Q6 _) (land256 (Rl _ _)),Zg4,hg]
  rfl
 have l2:Dc .u8 Nat.lor ((byB g (i / 8):Nat):Int) ((2 ^ (i % 8):Nat):Int)=.int .u8 ((Nat.lor (byB g (i / 8)) (2 ^ (i % 8)):Nat):Int):=Zvk (Rl _ _) (Q6 _) (lor256 (Rl _ _) (Q6 _))
 refine fnG Hh Tryz.f50 ?_
 have Jf:=Sy @q1 @rd @wr @l1 @l2 @hb
 iterate 4 (first|apply Zk|refine Zq Hh Za Zj ?_)
 iterate 4 (first|apply Zk|apply Zw|refine Goes.Zi Zj ?_|refine Ed Hh (Zp (Zp Za c1) c2) Rq ?_)
 iterate 4 (first|apply Zk|apply Z0|refine Zq Hh (Zp Za c2) Zj ?_|refine Ed Hh (Zp Za c2) Rq ?_)
 exact Zj
end
end Go.Proofs.YtecakmodlkbnaaaGreatDoor
set_option maxRecDepth 100000
set_option maxHeartbeats 4000000
namespace Go.Proofs.YtecakmodlkbnaaaGreatDoor
open Go.Ev
theorem Tq {sz k j:Nat} {L:List (List C)} {x:List C} {c:C} (hx:L[k]? = some x) (xl:x.length=sz) (hj:j<sz):Z4 sz L (k * sz+j) [c]=some (L.set k (x.set j c)):=by
 have e1:(k * sz+j) / sz=k:=by rw[Nat.mul_comm,Nat.mul_add_div (by omega),Nat.div_eq_of_lt hj,Nat.add_zero]
 have e2:(k * sz+j) % sz=j:=by rw[Nat.mul_comm,Nat.mul_add_mod,Nat.mod_eq_of_lt hj]
 simp only[Z4,e1,e2,hx]
 rw[Qm (by omega),cond_true]
def Wp (g:Nat→Bool):List Nat:=(List.range 256).map (byB g)
theorem Zpo (g:Nat→Bool):(Wp g).length=256:=by simp [Wp]
theorem Zby (g:Nat→Bool):Jd g=pgL (Wp g):=by
 unfold Jd pgL Wp
 rw[List.map_map]
 refine List.map_congr_left fun t _=>?_
 show C.int .u8 ((byB g t:Nat):Int)=.int .u8 ((byB g t % 256:Nat):Int)
 rw[Nat.mod_eq_of_lt (Rl g t)]
def Zbr (D:List Oy):List Nat:=Gc (Fe D 0 O0)
theorem Zdf (D:List Oy):(Zbr D).length=256:=by unfold Zbr; rw[Gc,Yh,Zdi]; exact Q8
def Des (V:Nat→List Nat) (a b c:Nat) (D:List Oy):Prop:=goodD (V 1) a b c=true∧Bh (V 1) a 0=D∧D.length=a
noncomputable def q48 (p:List Nat):Code:=piece p (Uh Tryz.f48)
theorem rs48:Tryz.f48.results.toList=[.tmp 6]:=rfl
attribute [go_sem] rs48
section
variable (Hh:Hearts K Tryz.prog)
include Hh
theorem Zwd (g:Nat→Bool) {p t u:Nat} (tu:t≤u) (u2:u≤2048) (ht:t<u→g t=false) {h:Go.Ev.H} (hp:h.get p=some (.row 256 [Jd g] false)):∀ (k i:Nat) (ts:Zx),i+k=t→(∀ j,i≤j→j<t→g j=true)→Zh ts 3=.w (.c (.ptr p 0))→Zh ts 2=.w (.c (.int .i64 (u:Int)))→Zh ts 7=.w (.c (.int .i64 (i:Int))) →
  Ye 27 none (q48 [1,1,0,1,2]) [] ts h fun x ds' ts' h'=>((t<u∧x=.ret∧Zh ts' 6=.w (.c (.int .i64 (t:Int))))∨(t=u∧x=.exit 0))∧ds'=[]∧h'=h:=by
 intro k
 induction k with
 | zero =>
  intro i ts hi _ t3 t2 t7
  obtain rfl:i=t:=by omega
  rcases Nat.lt_or_ge i u with lt|ge
  ·have gi:=ht lt
   have cm:=fun h=>Zrn Hh h i
   have q1:Mk .i64 (i:Int) 8=some (.int .i64 ((i / 8:Nat):Int)):=Ea (b:=8) (by omega) (by omega)
   have rd:read1 256 [Jd g] (i / 8)=some (.int .u8 ((byB g (i / 8):Nat):Int)):=by
    unfold read1
    rw[Nat.div_eq_of_lt (by omega),Nat.mod_eq_of_lt (by omega),List.getElem?_cons_zero]
    exact Zel g _ (by omega)
   have l1:Dc .u8 Nat.land ((byB g (i / 8):Nat):Int) ((2 ^ (i % 8):Nat):Int)=.int .u8 ((0:Nat):Int):=by
    rw[Zvk (Rl _ _) (Q6 _) (land256 (Rl _ _)),Zg4,gi]
    rfl
   have Jf:=M8 @t2 @t3 @t7 @hp @q1 @rd @l1
   iterate 9 (first|apply Zk|apply Zw|apply Yt|apply Je|refine Goes.Zi Zj ?_|refine Zq Hh Za Zj ?_)
   iterate 5 (first|apply Zk|apply Z0|refine Goes.Zi Zj ?_|refine Zq Hh (Yp Za cm) Zj ?_|refine Ed Hh (Yp Za cm) Rq ?_)
   refine⟨.inl ⟨lt,rfl,?_⟩,rfl,rfl⟩
   exact Zj
  ·obtain rfl:i=u:=by omega
   have Jf:=Yy @t2 @t7
   iterate 6 (first|apply Zk|apply Ux|apply Je|refine Goes.Zi Zj ?_|refine Zq Hh Za Zj ?_)
   exact⟨.inr ⟨rfl,rfl⟩,rfl,rfl⟩
 | succ k ih =>
  intro i ts hi all t3 t2 t7
  have gi:=all i (by omega) (by omega)
  have cm:=fun h=>Zrn Hh h i
  have q1:Mk .i64 (i:Int) 8=some (.int .i64 ((i / 8:Nat):Int)):=Ea (b:=8) (by omega) (by omega)
  have rd:read1 256 [Jd g] (i / 8)=some (.int .u8 ((byB g (i / 8):Nat):Int)):=by
   unfold read1
   rw[Nat.div_eq_of_lt (by omega),Nat.mod_eq_of_lt (by omega),List.getElem?_cons_zero]
   exact Zel g _ (by omega)
  have p1:0<2 ^ (i % 8):=Nat.pow_pos (by omega)
  have e1:(((2 ^ (i % 8):Nat):Int) == 0)=false:=Ee (by exact_mod_cast (Nat.pos_iff_ne_zero.1 p1))
  have l1:Dc .u8 Nat.land ((byB g (i / 8):Nat):Int) ((2 ^ (i % 8):Nat):Int)=.int .u8 ((2 ^ (i % 8):Nat):Int):=by
   rw[Zvk (Rl _ _) (Q6 _) (land256 (Rl _ _)),Zg4,gi]
   rfl
  have Jf:=Vu @t2 @t3 @t7 @hp @q1 @rd @l1 @e1
  iterate 9 (first|apply Zk|apply Zw|apply Yt|apply Je|refine Goes.Zi Zj ?_|refine Zq Hh Za Zj ?_)
  iterate 4 (first|apply Zw|refine Goes.Zi Zj ?_|refine Zq Hh (Yp Za cm) Zj ?_|refine Ed Hh (Yp Za cm) Rq ?_)
  show Ye 27 none (q48 [1,1,0,1,2]) _ _ _ _
  refine ih (i+1) _ (by omega) (fun j h1 h2=>all j (by omega) h2) ?_ ?_ ?_
  ·have Jf:=@t3; exact Zj
  ·have Jf:=@t2; exact Zj
  ·exact Zc
theorem Z0e (g:Nat→Bool) {s t u:Nat} (st:s≤t) (tu:t≤u) (u2:u≤2048) (all:∀ j,s≤j→j<t→g j=true) (ht:t<u→g t=false) (h:Go.Ev.H):Zg 48 [.g (Jd g),.c (.int .i64 (s:Int)),.c (.int .i64 (u:Int))] h (.w (.c (.int .i64 (if t<u then (t:Int) else -1)))) h:=by
 have mx:max (s:Int) 0=(s:Int):=by omega
 have mn:min (u:Int) 2048=(u:Int):=by omega
 have mi:¬(2048<(u:Int)):=by omega
 have mj:¬((s:Int)<0):=by omega
 have pl:=Uu g
 have lp:=fun (h:Go.Ev.H) (p:Nat) hp=>Zwd Hh g tu u2 ht (h:=h) (p:=p) hp (t - s) s
 obtain⟨G,hG⟩:∃ G,Jd g=G:=⟨_,rfl⟩
 rw[hG] at pl ⊢
 simp only[hG] at lp
 refine Gt rfl ?_
 refine Yg Hh Tryz.f48 ?_
 iterate 8 (first|apply Zk|apply Yt|(apply Goes.ops2 fits Hh Za; · simp (maxSteps:=9^6) +decide (disch:=first|omega|(simp only[lens]<;>omega)|decide) only [go_sem,Zm,simprocAttr,mx,mn,mi,mj,pl,if_neg,if_false,Zr,Yf,read1]<;>rfl))
 refine (lp _ h.next ?_ _ (by omega) all ?_ ?_ ?_).mono ?_
 ·have Jf:=@pl; exact Z5
 ·exact Yn
 ·simp (maxSteps:=9^6) +decide (disch:=first|omega|(simp only[lens]<;>omega)|decide) only [go_sem,Zm,simprocAttr,mx,mn,mi,mj,if_neg,if_false]<;>rfl
 ·simp (maxSteps:=9^6) +decide (disch:=first|omega|(simp only[lens]<;>omega)|decide) only [go_sem,Zm,simprocAttr,mx,mn,mi,mj,if_neg,if_false]<;>rfl
 rintro x ds' ts' h' ⟨hx,rfl,rfl⟩
 rcases hx with ⟨lt,rfl,t6⟩|⟨rfl,rfl⟩
 ·rw[if_pos lt]
  exact⟨_,_,(by have Jf:=@t6; exact Zj),rfl,fun m hm=>by exact Yc⟩
 ·rw[if_neg (Nat.lt_irrefl _)]
  iterate 3 (first|apply Zk|apply Z0|refine Zq Hh Za Zc ?_)
  exact⟨_,_,Zc,rfl,fun m hm=>by exact Yc⟩
end
theorem rs260:Tryz.f260.results.toList=[.tmp 2]:=rfl
theorem rs220:Tryz.f220.results.toList=[.tmp 2]:=rfl
theorem rs221:Tryz.f221.results.toList=[.tmp 2,.tmp 3]:=rfl
theorem rs222:Tryz.f222.results.toList=[.tmp 4]:=rfl
theorem rs223:Tryz.f223.results.toList=[.tmp 6]:=rfl
theorem rs224:Tryz.f224.results.toList=[.tmp 10]:=rfl
theorem rs225:Tryz.f225.results.toList=[]:=rfl
attribute [go_sem] rs260 rs220 rs221 rs222 rs223 rs224 rs225
noncomputable def Zs4:Kn1:=fun args h=>match args with
 | [.c (.ptr s 0)]=>(Br h s).bind fun S=>(Fx h S.gd).bind fun _=>some (.w (.c (.int .i64 0)),h)
 | _=>none
noncomputable def Zq9:Kn1:=fun args h=>match args with
 | [.c (.ptr s 0)]=>(Br h s).bind fun S=>(Fx h S.gd).bind fun _=>(Gn h S.tx).bind fun X=>Y8 X.op (some (.w (.c (.int .i64 0)),h))
 | _=>none
noncomputable def Zgn:Kn1:=fun args h=>match args with
 | [.g [a,b,c,d],.c z]=>some (.w (.c (.fn 261 [] [some (h.next,0),some (h.next+1,0)])),(h.new (.row 4 [[a,b,c,d]] false)).new (.row 1 [[z]] false))
 | _=>none
attribute [go_sem] Zs4 Zq9 Zgn
section
variable (Hh:Hearts K Tryz.prog)
include Hh
theorem Zye {args:List W} {h h':Go.Ev.H} {v:V} (e:Zs4 args h=some (v,h')):Zg 260 args h v h':=by
 unfold Zs4 at e
 split at e
 ·rename_i s
  obtain⟨S,hs,e⟩:=Zo e
  have hs:=Jc hs
  obtain⟨G,hg,e⟩:=Zo e
  obtain⟨hg,fb⟩:=J4 hg
  cases e
  refine fnG Hh Tryz.f260 ?_
  repeat (first|apply Zk|apply Zw|apply Z0|((first|apply Goes.Zi|apply Goes.ops2 fits Hh (EY (EY Za (Jh Hh)) (Uy Hh))); · simp (maxSteps:=9^6) +decide (disch:=first|omega|(simp only[lens]<;>omega)|decide) only [go_sem,Zn,Zm,simprocAttr,hs,hg,gdL,fb,Jk]<;>rfl))
  exact Zc
 ·cases e
theorem Zkh {args:List W} {h h':Go.Ev.H} {v:V} (e:Zq9 args h=some (v,h')):Zg 220 args h v h':=by
 unfold Zq9 at e
 split at e
 ·rename_i s
  obtain⟨S,hs,e⟩:=Zo e
  have hs:=Jc hs
  obtain⟨G,hg,e⟩:=Zo e
  obtain⟨hg,fb⟩:=J4 hg
  obtain⟨X,ht,e⟩:=Zo e
  have ht:=Y4 ht
  obtain⟨bo,e⟩:=Zu.1 e
  cases e
  refine fnG Hh Tryz.f220 ?_
  repeat (first|apply Zk|apply Wn|apply Zw|apply Z0|((first|apply Goes.Zi|apply Goes.ops2 fits Hh (EY (EY (EY Za (Zye Hh)) (Q0 Hh)) (Zco Hh))); · simp (maxSteps:=9^6) +decide (disch:=first|omega|(simp only[lens]<;>omega)|decide) only [go_sem,Zn,Zm,simprocAttr,hs,ht,hg,gdL,fb,bo]<;>rfl)|simp +decide only [reduceIte])
  exact Zc
 ·cases e
theorem Zfg {args:List W} {h h':Go.Ev.H} {v:V} (e:Zgn args h=some (v,h')):Zg 222 args h v h':=by
 unfold Zgn at e
 split at e
 ·cases e
  refine fnG Hh Tryz.f222 ?_
  repeat (first|apply Zk|apply Z0|((first|apply Goes.Zi|apply Goes.ops2 fits Hh Za); · simp (maxSteps:=9^6) +decide (disch:=first|omega|(simp only[lens]<;>omega)|decide) only [go_sem,Zn,Zm,simprocAttr,Yf,Zdv,R7,ptrs]<;>rfl))
  exact Zc
 ·cases e
variable {n q a b c e:Nat} {cr:Cr} {md:Int} {S T:List Nat} {V:Nat→List Nat} {h:Go.Ev.H}
theorem Zv2 (f:Ym a b c e=true) (M:HE n q a b c e cr md S T V h) {D:List Oy} (dd:Des V a b c D) :
  ∃ h' p,Zg 221 [.c (.ptr (n+13) 0)] h (.tup [.c (.slice p 0 a 3),.c (.int .i64 0)]) h'∧HE n q a b c e cr md S T V h'∧Kr n q h h'∧h.next≤p∧p<h'.next∧h'.get p=some (.row 3 (D.map Uj) false):=by
 obtain⟨g1,g2,g3,g4,g5,g6,g7,g8,g9,g10,g11⟩:=Zv f
 obtain⟨gd,td,Dl⟩:=dd
 obtain⟨hG,e1,MG,nG,rG⟩:=M.get f (z:=1) (Vt a b c e) (by omega)
 have c1:Zg 36 [.c (.ptr (n+13) 0),.c (.int .i64 1)] h (.tup [.g (pgL (V 1)),.c (.int .i64 0)]) hG:=Dq Hh e1
 have Yl:(pgL (V 1)).length=256:=by rw[Jy]; exact M.len (z:=1) (Vt a b c e) (by omega)
 have bd:=Qu (V 1)
 have gd':goodD (unN (pgL (V 1))) a b c=true:=by rw[Od,Lm]; exact gd
 have td':Bh (unN (pgL (V 1))) a 0=D:=by rw[Od,Fp]; exact td
 obtain⟨Y,hY⟩:∃ Y,pgL (V 1)=Y:=⟨_,rfl⟩
 rw[hY] at c1 Yl bd gd' td'
 obtain⟨nq,nx,n0⟩:=M.nx
 obtain⟨st,⟨kn,hs⟩,⟨dk,gl⟩,ht⟩:=MG.cells
 obtain⟨st0,⟨kn0,hs0⟩,⟨dk0,gl0⟩,ht0⟩:=M.cells
 unfold gdL gdD at gl gl0
 obtain⟨v,h',cc,p,rfl,M',hk,p1,p2,p3⟩:∃ v h',Zg 221 [.c (.ptr (n+13) 0)] h v h'∧∃ p,v=.tup [.c (.slice p 0 a 3),.c (.int .i64 0)]∧HE n q a b c e cr md S T V h'∧Kr n q h h'∧h.next≤p∧p<h'.next∧h'.get p=some (.row 3 (D.map Uj) false):=by
  refine Yg Hh Tryz.f221 ?_
  have Jf:=Jb @f @st (Yu @hs @gl @hs0 @gl0 @Yl @bd @gd' @td' @Dl)
  iterate 3 (first|apply Zk|refine Zq Hh Za Ov ?_)
  iterate 7 (first|apply Zk|apply Zw|refine Goes.Zi Ov ?_|refine Zq Hh (Zp Za c1) Ov ?_)
  iterate 2 (first|apply Z0|refine Ed Hh (EY (EY Za (Jh Hh)) (Zvu Hh)) Zpc ?_)
  refine⟨_,_,Yn,_,rfl,MG.keep ?_ (fun m hm=>?_),⟨?_,fun m hm hne=>?_⟩,?_,?_,?_⟩
  ·first|omega|(simp only[H.Zd,H.Zb]<;>omega)
  ·exact Yc
  ·first|omega|(simp only[H.Zd,H.Zb]<;>omega)
  ·refine Eq.trans ?_ (rG m hm hne); exact Yc
  ·first|omega|(simp only[H.Zd,H.Zb]<;>omega)
  ·first|omega|(simp only[H.Zd,H.Zb]<;>omega)
  ·exact Yn
 exact⟨h',p,cc,M',hk,p1,p2,p3⟩
theorem Zy6 (f:Ym a b c e=true) (M:HE n q a b c e cr md S T V h) {g:Nat→Bool} {t:Nat} (low:∀ j,2+c / 4≤j→j<t→g j=true) (t0:2+c / 4≤t) (tb:t≤b) (gt:t<b→g t=false) {s:Nat} (sl:s≤4096) :
  ∃ h',Zg 223 [.c (.ptr (n+13) 0),.c (.int .i64 (s:Int)),.g (Jd g)] h (.w (.c (.int .i64 (if t<b then (t:Int) else -1)))) h'∧HE n q a b c e cr md S T V h'∧h.next≤h'.next∧∀ m,m<h.next→m≠n+13→h'.get m=h.get m:=by
 obtain⟨g1,g2,g3,g4,g5,g6,g7,g8,g9,g10,g11⟩:=Zv f
 obtain⟨nq,nx,n0⟩:=M.nx
 obtain⟨st,⟨kn,hs⟩,⟨dk,gl⟩,ht⟩:=M.cells
 unfold gdL gdD at gl
 have pl:(Jd g).length=256:=Uu _
 have cF:=Z0e Hh g (s:=2+c / 4) (t:=t) (u:=b) t0 tb (by omega) low gt
 have q4:Mk .i64 (c:Int) 4=some (.int .i64 ((c / 4:Nat):Int)):=Ea (b:=4) (by omega) (by omega)
 have e2:(2:Int)+((c / 4:Nat):Int)=((2+c / 4:Nat):Int):=rfl
 have d0:decide (((2+c / 4:Nat):Int)<(b:Int))=true:=decide_eq_true (by omega)
 obtain⟨y,hy⟩:∃ y,2+c / 4=y:=⟨_,rfl⟩
 rw[hy] at cF e2 d0 t0
 obtain⟨B,hB⟩:∃ B,Jd g=B:=⟨_,rfl⟩
 rw[hB] at pl cF ⊢
 obtain⟨z,hz⟩:∃ z,(if t<b then (t:Int) else -1)=z:=⟨_,rfl⟩
 rw[hz] at cF ⊢
 refine Ou ?_
 by_cases tl:t<b
 ·obtain rfl:z=(t:Int):=by rw[←hz,if_pos tl]
  have es:(s:Int)+(t:Int)=((s+t:Nat):Int):=rfl
  refine Yg Hh Tryz.f223 ?_
  have Jf:=Vu @f @hs @gl @pl @q4 @e2 @d0 @es
  iterate 17 (first|apply Zk|apply Zw|apply Yt|apply Je|refine Goes.Zi Us ?_|refine Zq Hh (EY Za (Jh Hh)) Us ?_)
  iterate 7 (first|apply Zk|apply Zw|refine Goes.Zi Us ?_|refine Zq Hh (Yp Za cF) Us ?_)
  refine Uc fun hA eA=>?_
  have nA:hA.next=h.next+2:=by rw[eA]; simp only[H.Zd,H.Zb]
  have kA:∀ m,m<h.next→hA.get m=h.get m:=fun m hm=>by rw[eA]; exact Yc
  clear eA
  have MA:=M.keep (h2:=hA) (by omega) (fun m hm=>kA m (by omega))
  obtain⟨hC,e8,MC,nC,rC⟩:=MA.busy ((s+t:Nat):Int)
  have c8:=Zwv Hh e8
  iterate 5 (first|apply Zk|apply Z0|refine Goes.Zi Us ?_|refine Zq Hh (Zp Za c8) Us ?_)
  exact⟨_,_,Zc,rfl,MC,by omega,fun m hm hne=>(rC m hne).trans (kA m hm)⟩
 ·obtain rfl:z = -1:=by rw[←hz,if_neg tl]
  refine Yg Hh Tryz.f223 ?_
  have Jf:=M8 @f @hs @gl @pl @q4 @e2 @d0
  iterate 17 (first|apply Zk|apply Zw|apply Yt|apply Je|refine Goes.Zi Us ?_|refine Zq Hh (EY Za (Jh Hh)) Us ?_)
  iterate 8 (first|apply Zk|apply Z0|refine Goes.Zi Us ?_|refine Zq Hh (Yp Za cF) Us ?_)
  refine⟨_,_,Zc,rfl,M.keep ?_ (fun m hm=>?_),?_,fun m hm hne=>?_⟩
  ·first|omega|(simp only[H.Zd,H.Zb]<;>omega)
  ·exact Yc
  ·first|omega|(simp only[H.Zd,H.Zb]<;>omega)
  ·exact Yc
theorem Z41 {p k:Nat} {D:List Oy} {x y w:Nat} {h:Go.Ev.H} (hp:h.get p=some (.row 3 (D.map Uj) false)) (hk:D[k]? = some (x,y,w)) (x1:1≤x) (x2:x<4096):Zg 225 [.c (.ptr p (k * 3))] h (.tup []) (h.put p (.row 3 ((D.set k (x - 1,y,w)).map Uj) false)):=by
 have hr:(D.map Uj)[k]? = some [.int .i64 (x:Int),.int .i64 (y:Int),.int .i64 (w:Int)]:=by rw[List.getElem?_map,hk]; rfl
 have r1:read1 3 (D.map Uj) (k * 3)=some (.int .i64 (x:Int)):=Md (sz:=3) (j:=0) (by omega) hr
 have w1:Z4 3 (D.map Uj) (k * 3) [.int .i64 ((x:Int) - 1)]=some ((D.map Uj).set k [.int .i64 ((x:Int) - 1),.int .i64 (y:Int),.int .i64 (w:Int)]):=Tq (j:=0) hr rfl (by omega)
 have fin:(D.map Uj).set k [.int .i64 ((x:Int) - 1),.int .i64 (y:Int),.int .i64 (w:Int)]=(D.set k (x - 1,y,w)).map Uj:=by
  rw[List.map_set]
  congr 1
  show _=[C.int .i64 ((x - 1:Nat):Int),.int .i64 (y:Int),.int .i64 (w:Int)]
  rw[show ((x - 1:Nat):Int)=(x:Int) - 1 by omega]
 obtain⟨Z,hZ⟩:∃ Z,D.map Uj=Z:=⟨_,rfl⟩
 rw[hZ] at hp r1 w1 fin
 refine fnG Hh Tryz.f225 ?_
 have Jf:=Uq @hp @r1 @w1 @Nat.add_zero
 repeat (first|refine Zq Hh Za Zj ?_)
 have Jf:=@fin; exact Zj
theorem Zzd (f:Ym a b c e=true) (M:HE n q a b c e cr md S T V h) {k:Nat} (ka:k<a) (s2:1∈S∧1 ∉ T) (s3:2+e+k * b∈S∧2+e+k * b ∉ T) {nb:List Nat} (nbl:nb.length=256)
  {F pD:Nat} {D D':List Oy} (hp:h.get pD=some (.row 3 (D.map Uj) false)) (Dl:D.length=a) (Dl':D'.length=a) (Dm:D'.all (Xy (b - 2 - c / 4) c)=true) (pl:pD<h.next) (p32:q+9≤pD)
  (hF:∀ h2,h2.get pD=some (.row 3 (D.map Uj) false)→Zg F [.c (.ptr pD (k * 3))] h2 (.tup []) (h2.put pD (.row 3 (D'.map Uj) false))) :
  ∃ h',Zg 224 [.c (.ptr (n+13) 0),.c (.int .i64 (k:Int)),.g (pgL nb),.c (.slice pD 0 a 3),.c (.fn F [] [])] h (.w (.c (.int .i64 0))) h'∧HE n q a b c e cr md S T (O9 (O9 V (2+e+k * b) nb) 1 (Zbr D')) h'∧h.next≤h'.next∧∀ m,m<h.next→Out n q m→m≠pD→h'.get m=h.get m:=by
 obtain⟨g1,g2,g3,g4,g5,g6,g7,g8,g9,g10,g11⟩:=Zv f
 have st:=Jp (b:=b) ka
 obtain⟨zb,hb⟩:∃ z,2+e+k * b=z:=⟨_,rfl⟩
 rw[hb] at s3 ⊢
 have zbl:zb<2+e+a * b:=by omega
 have ob:=Dx (z:=zb) (Zv f) (by omega) zbl
 obtain⟨nq,nx,n0⟩:=M.nx
 have bl:(pgL nb).length=256:=by rw[Jy,nbl]
 have hB1:=fun {h:Go.Ev.H} (M:HE n q a b c e cr md S T V h)=>M.put f ob zbl nbl s3.1 s3.2
 have hB2:=fun {V:Nat→List Nat} {h:Go.Ev.H} (M:HE n q a b c e cr md S T V h)=>M.put f (z:=1) (Vt a b c e) (by omega) (Zdf D') s2.1 s2.2
 obtain⟨mB,hmB⟩:∃ x,pgL nb=x:=⟨_,rfl⟩
 obtain⟨Y,hY⟩:∃ Y,pgL (Zbr D')=Y:=⟨_,rfl⟩
 have Yl:Y.length=256:=by rw[←hY,Jy,Zdf]
 have hY':pgL (Gc (Fe D' 0 O0))=Y:=hY
 rw[hmB] at bl ⊢
 simp only[hmB] at hB1
 simp only[hY] at hB2
 refine Ou ?_
 refine Yg Hh Tryz.f224 ?_
 have Jf:=Uq @f @hb @bl @Nat.zero_add
 iterate 3 (first|apply Zk|refine Zq Hh Za O4 ?_)
 refine Uc fun hA eA=>?_
 have nA:hA.next=h.next+1:=by rw[eA]; first|rfl|simp only[H.Zd,H.Zb]
 have kA:∀ m,m<h.next→hA.get m=h.get m:=fun m hm=>by rw[eA]; exact Yc
 have bA:hA.get h.next=some (.row 256 [mB] false):=by rw[eA]; exact Z5
 clear eA
 have MA:=M.keep (h2:=hA) (by omega) (fun m hm=>kA m (by omega))
 obtain⟨_,⟨knA,hsA⟩,⟨dkA,glA⟩,_⟩:=MA.cells
 unfold gdL gdD at glA
 obtain⟨hB,e1,MB,nB,kB⟩:=hB1 MA
 have c1:=Mo Hh e1
 have Jf:=U1 Jf @nA @bA @hsA @glA
 iterate 3 (first|apply Zk|refine Zq Hh (EY (EY Za (Jh Hh)) (Dy Hh)) O4 ?_)
 iterate 6 (first|apply Zk|apply Zw|refine Goes.Zi O4 ?_|refine Zq Hh (Zp Za c1) O4 ?_)
 have pB:=(kB pD ⟨by omega,by omega,by omega,by omega,by omega⟩).trans ((kA _ pl).trans hp)
 have c2:=hF hB pB
 iterate 2 (first|apply Zk|refine Zq Hh (Zp Za c2) O4 ?_)
 refine Uc fun hC eC=>?_
 have nC:hC.next=h.next+1:=by rw[eC,H.Zd,nB,nA]
 have kC:∀ m,m<h.next+1→Out n q m→m≠pD→hC.get m=hA.get m:=fun m hm ho hne=>by rw[eC,Ze hne]; exact kB m ho.1
 have pC:hC.get pD=some (.row 3 (D'.map Uj) false):=by rw[eC,Zz]
 have MC:=MB.keep (h2:=hC) (by rw[eC,H.Zd]; omega) (fun m hm=>by rw[eC,Ze (by omega)])
 clear eC
 obtain⟨stC,⟨knC,hsC⟩,⟨dkC,glC⟩,_⟩:=MC.cells
 unfold gdL gdD at glC
 have Jf:=Yy Jf (Yu @nC @pC @hsC @glC @stC @Dl' @Dm @hY' @Yl)
 iterate 7 (first|apply Zk|apply Zw|refine Goes.Zi O4 ?_|refine Zq Hh (EY (EY Za (Jh Hh)) (Zgf Hh)) O4 ?_)
 refine Uc fun hD eD=>?_
 have nD:hD.next=h.next+2:=by rw[eD]; simp only[H.Zd,H.Zb,nC]
 have kD:∀ m,m<h.next+1→Out n q m→m≠pD→hD.get m=hA.get m:=fun m hm ho hne=>by rw[eD]; refine Eq.trans ?_ (kC m hm ho hne); exact Yc
 have bD:hD.get (h.next+1)=some (.row 256 [Y] false):=by rw[eD,←nC]; exact Z5
 have MD:=MC.keep (h2:=hD) (by omega) (fun m hm=>by rw[eD]; have:=MC.nx; exact Yc)
 clear eD
 obtain⟨hE,e3,ME,nE,kE⟩:=hB2 MD
 have c3:=Mo Hh e3
 have Jf:=Yy Jf @bD
 iterate 2 (first|apply Z0|refine Zq Hh (Zp Za c3) O4 ?_)
 exact⟨_,_,Yn,rfl,ME,by omega,fun m hm ho hne=>(kE m ho.1).trans ((kD m (by omega) ho hne).trans (kA m hm))⟩
end
end Go.Proofs.YtecakmodlkbnaaaGreatDoor
