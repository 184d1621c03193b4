/- Store.Busy, where no block was given back. -/
import Derived.Test.YtdmendgkbikkaaaGreatDoorHdd
import Derived.Test.YtdmendgkbikkaaaGreatDoorEvC
import Derived.Test.YtdmendgkbikkaaaGreatDoorSli
import Derived.Test.YtdmendgkbikkaaaGreatDoorMpx
set_option linter.unusedSimpArgs false
set_option linter.unusedVariables false
set_option linter.unusedSectionVars false
set_option maxRecDepth 100000
set_option maxHeartbeats 4000000
namespace Go.Proofs.YtdmendgkbikkaaaGreatDoor
open Go.Ev
theorem ty251:K.types.get 251=some ti251:=by kernel_rfl
theorem sz251:ti251.size=1:=by rfl
theorem ag251:ti251.agg=false:=by rfl
theorem de251:ti251.desc=(.int .u64):=by rfl
theorem ze251:ti251.zero=(.c (.int .u64 0)):=by rfl
theorem by251:ti251.bytes=8:=by rfl
theorem ke251 (k:IntKind) (n:Int):Di K 20 251 (.c (.int k n))=true:=by kernel_rfl
attribute [go_sem] ty251 sz251 ag251 de251 ze251 by251 ke251
theorem rs255:Tryz.f255.results.toList=[.tmp 2]:=rfl
theorem rs225:Tryz.f225.results.toList=[.tmp 2]:=rfl
theorem rs182:Tryz.f182.results.toList=[.tmp 2]:=rfl
theorem rs237:Tryz.f237.results.toList=[.tmp 4,.tmp 5]:=rfl
theorem rs212:Tryz.f212.results.toList=[.tmp 4]:=rfl
attribute [go_sem] rs255 rs225 rs182 rs237 rs212
noncomputable def Zpn:Kn1:=fun args h=>match args with
 | [.c (.map m)]=>some (.w (.c (.fn 272 [] [some (h.next,0)])),h.new (.row 1 [[.map m]] false))
 | _=>none
noncomputable def Zyj:Kn1:=fun args h=>match args with
 | [.c (.map m)]=>Yp (Jw h m) (some (.w (.c .snil),h))
 | _=>none
noncomputable def Zkr:Kn1:=fun args h=>match args with
 | [.c (.ptr t 0)]=>(Uh h t).bind fun X=>Yp (Jw h X.fr) (some (.w (.c .snil),h))
 | _=>none
noncomputable def Zxt:Kn1:=fun args h=>match args with
 | [.c .snil,.c (.int .i64 _)]=>some (.tup [.c (.int .i64 0),.c (.bool false)],h)
 | _=>none
def Zoh:C→Bool
 | .snil=>true
 | _=>false
theorem Zsv {c:C} (e:Zoh c=true):c=.snil:=by
 cases c<;>first|rfl|cases e
noncomputable def Zcm:Kn1:=fun args h=>match args with
 | [.c (.ptr s 0),.c (.int .i64 _)]=>(Gi h s).bind fun S=>(Uh h S.tx).bind fun X=>Yp (Jw h X.fr&&Zoh S.bs) (some (.w (.c (.bool false)),bif S.kn then h else h.put s (.row 8 [stL { S with kn:=true }] false)))
 | _=>none
attribute [go_sem] Zpn Zyj Zkr Zxt Zcm Zoh
section
variable (Hh:Hearts K Tryz.prog)
include Hh
theorem Ztx {args:List W} {h h':Go.Ev.H} {v:V} (e:Zpn args h=some (v,h')):Zg 255 args h v h':=by
 unfold Zpn at e
 split at e
 ·cases e
  refine fnG Hh Tryz.f255 ?_
  repeat (first|apply Zp|apply Yb|refine Zy Hh Za Nl ?_)
  exact Zj
 ·cases e
theorem Zyk {args:List W} {h h':Go.Ev.H} {v:V} (e:Zyj args h=some (v,h')):Zg 225 args h v h':=by
 unfold Zyj at e
 split at e
 ·rename_i m
  obtain⟨b,e⟩:=Zr.1 e
  have hm:=Yz b
  cases e
  refine Zv.tidy ⟨Tryz.f225,Tryz.func225,by kernel_rfl,by decide⟩ fun tidy=>?_
  have l2:=tidy _ _ hm
  refine Wo rfl ?_
  refine Jd Hh Tryz.f225 ?_
  have Jf:=@hm
  repeat (first|apply Zp|apply Yb|refine Zy Hh (EY (EY Za (Ztx Hh)) (Mj Hh)) Yi ?_)
  exact⟨_,_,Zj,rfl,fun j hj=>by exact Jg⟩
 ·cases e
theorem Zp9 {args:List W} {h h':Go.Ev.H} {v:V} (e:Zkr args h=some (v,h')):Zg 182 args h v h':=by
 unfold Zkr at e
 split at e
 ·rename_i t
  obtain⟨X,ht,e⟩:=Zh e
  have ht:=Ym ht
  obtain⟨b,e⟩:=Zr.1 e
  have hm:=Yz b
  cases e
  refine fnG Hh Tryz.f182 ?_
  have Jf:=Uq @ht @hm
  repeat (first|apply Zp|apply Z6|apply Yb|refine Goes.Zn Yi ?_|refine Zy Hh (EY (EY Za (Gb Hh)) (Zyk Hh)) Yi ?_)
  exact Zj
 ·cases e
theorem Zm7 {args:List W} {h h':Go.Ev.H} {v:V} (e:Zxt args h=some (v,h')):Zg 237 args h v h':=by
 unfold Zxt at e
 split at e
 ·cases e
  have lf:=Zal
  have d0:decide ((0:Int)<0)=false:=rfl
  refine fnG Hh Tryz.f237 ?_
  have Jf:=Uq @lf @d0
  iterate 15 (first|apply Zp|apply Yk|apply Oe|apply Yt|refine Goes.Zn Je ?_|refine Zy Hh Za Je ?_)
  refine Goes.ops2 fits Hh Za (by
   iterate 25 (refine Y9 Je ?_)
   exact Y8) ?_
  apply Yb
  exact Zj
 ·cases e
theorem Zt6 {args:List W} {h h':Go.Ev.H} {v:V} (e:Zcm args h=some (v,h')):Zg 212 args h v h':=by
 unfold Zcm at e
 split at e
 ·rename_i s z
  obtain⟨S,hs,e⟩:=Zh e
  have hs:=Ja hs
  obtain⟨X,ht,e⟩:=Zh e
  have ht:=Ym ht
  obtain⟨b,e⟩:=Zr.1 e
  rw[Bool.and_eq_true] at b
  have hm:=Yz b.1
  obtain⟨gd,tx,dt,gv,bs,kn⟩:=S
  have eb:bs=.snil:=Zsv b.2
  subst eb
  have n1:tx≠s:=fun e1=>by simp only[e1] at ht; rw[ht] at hs; cases hs
  have n2:X.fr≠s:=fun e1=>by rw[e1,hs] at hm; cases hm
  have pp:=@H.Zdv
  cases kn with
  | true =>
   cases e
   refine fnG Hh Tryz.f212 ?_
   have Jf:=Uc @hs @ht @hm
   iterate 17 (first|apply Zp|apply Z6|apply Yb|refine Goes.Zn Yi ?_|refine Zy Hh (EY (EY Za (U3 Hh)) (Zm7 Hh)) Yi ?_)
   exact Zj
  | false =>
   cases e
   refine fnG Hh Tryz.f212 ?_
   have Jf:=Uc @hs @ht @hm
   iterate 26 (first|apply Zp|apply Z6|apply Yb|refine Goes.Zn Zdg ?_|refine Zy Hh (EY (EY (EY (EY Za (U3 Hh)) (Zp9 Hh)) (Zio Hh)) (Zm7 Hh)) Zdg ?_)
   have Jf:=@pp; exact Zq
 ·cases e
end
section
variable {n q a b c e:Nat} {cr:Cr} {md:Int} {h:Go.Ev.H} {S T:List Nat} {V:Nat→List Nat}
theorem HE.busy (M:HE n q a b c e cr md S T V h) (z:Int):∃ h',Zcm [.c (.ptr (n+13) 0),.c (.int .i64 z)] h=some (.w (.c (.bool false)),h')∧HE n q a b c e cr md S T V h'∧h'.next=h.next∧∀ m,m≠n+13→h'.get m=h.get m:=by
 obtain⟨d,d1,d2,kn,ld,lt,lc,lm,L,fl,sn,ft,fc,t5,vt,t7,t8,t9,tT,see,M⟩:=M
 have MM:=M
 obtain⟨f1,f2,f3,f4,l1,l2,f5,f6,f7,f8,f9,f10,f11,f12,f13,f14,f15,f16,f17,f18,f19,f20,f21⟩:=M
 cases kn with
 | true=>exact⟨h,by unfold Zcm; simp (maxSteps:=9^6) +decide (disch:=first|omega|(simp only[lens]<;>omega)|decide) only [go_sem,Zm,Ze,simprocAttr,f19,f5,f12]<;>rfl,⟨d,d1,d2,true,ld,lt,lc,lm,L,fl,sn,ft,fc,t5,vt,t7,t8,t9,tT,see,MM⟩,rfl,fun _ _=>rfl⟩
 | false =>
  refine⟨h.put (n+13) (.row 8 [stL (stH n q cr true)] false),by unfold Zcm; simp (maxSteps:=9^6) +decide (disch:=first|omega|(simp only[lens]<;>omega)|decide) only [go_sem,Zm,Ze,simprocAttr,f19,f5,f12]<;>rfl,⟨d,d1,d2,true,ld,lt,lc,lm,L,fl,sn,ft,fc,t5,vt,t7,t8,t9,tT,see,?_⟩,rfl,fun m hm=>Zo hm⟩
  have db:=Zjd q cr
  refine⟨?_,f2,f3,f4,l1,l2,?_,?_,?_,?_,?_,?_,?_,?_,?_,?_,?_,?_,f17,?_,Yg _ _ _,fun o=>?_,?_⟩
  all_goals (rw[Zo (by omega)]; first|assumption|exact f20 o)
end
end Go.Proofs.YtdmendgkbikkaaaGreatDoor
set_option maxRecDepth 100000
namespace Go.Proofs.YtdmendgkbikkaaaGreatDoor
open Go.Ev
theorem ty77:K.types.get 77=some ti77:=by kernel_rfl
theorem sz77:ti77.size=1:=by rfl
theorem ag77:ti77.agg=false:=by rfl
theorem de77:ti77.desc=(.pointer 73):=by rfl
theorem ze77:ti77.zero=(.c (.pnil)):=by rfl
theorem by77:ti77.bytes=8:=by rfl
attribute [go_sem] ty3 sz3 ag3 de3 ze3 by3 ke3 ty4 sz4 ag4 de4 ze4 by4 ty5 sz5 ag5 de5 ze5 by5 ke5 ty73 sz73 ag73 de73 ze73 by73 eq73 ty77 sz77 ag77 de77 ze77 by77
theorem rs189:Tryz.f189.results.toList=[.tmp 2]:=rfl
theorem rs190:Tryz.f190.results.toList=[.tmp 2]:=rfl
theorem rs165:Tryz.f165.results.toList=[.tmp 4]:=rfl
attribute [go_sem] rs189 rs190 rs165
def b8 (b0 b1 b2 b3 b4 b5 b6 b7:Bool):Nat:=b0.toNat+2 * b1.toNat+4 * b2.toNat+8 * b3.toNat+16 * b4.toNat+32 * b5.toNat+64 * b6.toNat+128 * b7.toNat
theorem Z4i:∀ b0 b1 b2 b3 b4 b5 b6 b7:Bool,b8 b0 b1 b2 b3 b4 b5 b6 b7<256:=by decide +kernel
theorem land8:∀ b0 b1 b2 b3 b4 b5 b6 b7:Bool,∀ j:Fin 8,Nat.land (b8 b0 b1 b2 b3 b4 b5 b6 b7) (2 ^ j.1)=if [b0,b1,b2,b3,b4,b5,b6,b7].getD j.1 false=true then 2 ^ j.1 else 0:=by decide +kernel
theorem lor8:∀ b0 b1 b2 b3 b4 b5 b6 b7:Bool,∀ j:Fin 8,Nat.lor (b8 b0 b1 b2 b3 b4 b5 b6 b7) (2 ^ j.1)=b8 (b0 || decide (j.1=0)) (b1 || decide (j.1=1)) (b2 || decide (j.1=2)) (b3 || decide (j.1=3)) (b4 || decide (j.1=4)) (b5 || decide (j.1=5)) (b6 || decide (j.1=6)) (b7 || decide (j.1=7)):=by decide +kernel
def byB (g:Nat→Bool) (t:Nat):Nat:=b8 (g (8 * t)) (g (8 * t+1)) (g (8 * t+2)) (g (8 * t+3)) (g (8 * t+4)) (g (8 * t+5)) (g (8 * t+6)) (g (8 * t+7))
def Ov (g:Nat→Bool):List C:=(List.range 256).map fun t=>C.int .u8 ((byB g t:Nat):Int)
def Zch (g:Nat→Bool) (i:Nat):Nat→Bool:=fun j=>g j || decide (j=i)
theorem Lp (g:Nat→Bool):(Ov g).length=256:=by simp [Ov]
theorem Zb7 (g:Nat→Bool) (t:Nat) (h:t<256):(Ov g)[t]? = some (C.int .u8 ((byB g t:Nat):Int)):=by simp [Ov,h]
theorem sel8 (g:Nat→Bool) (i:Nat):[g (8 * (i / 8)),g (8 * (i / 8)+1),g (8 * (i / 8)+2),g (8 * (i / 8)+3),g (8 * (i / 8)+4),g (8 * (i / 8)+5),g (8 * (i / 8)+6),g (8 * (i / 8)+7)].getD (i % 8) false=g i:=by
 have e:=Nat.div_add_mod i 8
 obtain⟨t,ht⟩:∃ t,i / 8=t:=⟨_,rfl⟩
 rw[ht] at e ⊢
 have hj:i % 8=0∨i % 8=1∨i % 8=2∨i % 8=3∨i % 8=4∨i % 8=5∨i % 8=6∨i % 8=7:=by omega
 rcases hj with h|h|h|h|h|h|h|h<;>rw[h] at e ⊢ <;> rw[←e]<;>rfl
theorem Zd9 (g:Nat→Bool) (i:Nat):Nat.land (byB g (i / 8)) (2 ^ (i % 8))=if g i=true then 2 ^ (i % 8) else 0:=by
 have:=land8 (g (8 * (i / 8))) (g (8 * (i / 8)+1)) (g (8 * (i / 8)+2)) (g (8 * (i / 8)+3)) (g (8 * (i / 8)+4)) (g (8 * (i / 8)+5)) (g (8 * (i / 8)+6)) (g (8 * (i / 8)+7)) ⟨i % 8,by omega⟩
 simp only[sel8] at this
 exact this
theorem Zzr (g:Nat→Bool) (i:Nat):Nat.lor (byB g (i / 8)) (2 ^ (i % 8))=byB (Zch g i) (i / 8):=by
 have:=lor8 (g (8 * (i / 8))) (g (8 * (i / 8)+1)) (g (8 * (i / 8)+2)) (g (8 * (i / 8)+3)) (g (8 * (i / 8)+4)) (g (8 * (i / 8)+5)) (g (8 * (i / 8)+6)) (g (8 * (i / 8)+7)) ⟨i % 8,by omega⟩
 refine this.trans ?_
 have e:=Nat.div_add_mod i 8
 unfold byB Zch
 have q:∀ k,k<8→decide (i % 8=k)=decide (8 * (i / 8)+k=i):=fun k hk=>by
  rw[decide_eq_decide]
  omega
 have q0:=q 0 (by omega)
 rw[Nat.add_zero] at q0
 simp only[q0,q 1 (by omega),q 2 (by omega),q 3 (by omega),q 4 (by omega),q 5 (by omega),q 6 (by omega),q 7 (by omega)]
theorem Zsb (g:Nat→Bool) (i t:Nat) (h:t≠i / 8):byB (Zch g i) t=byB g t:=by
 unfold byB Zch
 have q:∀ k,k<8→decide (8 * t+k=i)=false:=fun k hk=>decide_eq_false (by omega)
 have q0:=q 0 (by omega)
 rw[Nat.add_zero] at q0
 simp only[q0,q 1 (by omega),q 2 (by omega),q 3 (by omega),q 4 (by omega),q 5 (by omega),q 6 (by omega),q 7 (by omega),Bool.or_false]
theorem Zs7 (g:Nat→Bool) (i:Nat) (hi:i<2048):(Ov g).set (i / 8) (.int .u8 ((Nat.lor (byB g (i / 8)) (2 ^ (i % 8)):Nat):Int))=Ov (Zch g i):=by
 refine List.ext_getElem (by simp [Ov]) fun t h1 h2=>?_
 rw[List.getElem_set]
 simp only[Ov,List.getElem_map,List.getElem_range]
 by_cases e:i / 8=t
 ·rw[if_pos e,Zzr,e]
 ·rw[if_neg e,Zsb _ _ _ (fun x=>e x.symm)]
theorem R3 (g:Nat→Bool) (t:Nat):byB g t<256:=Z4i ..
theorem Xv (i:Nat):2 ^ (i % 8)<256:=Nat.lt_of_lt_of_le (Nat.pow_lt_pow_right (by omega) (show i % 8<8 by omega)) (by decide)
theorem lor256 {a b:Nat} (ha:a<256) (hb:b<256):Nat.lor a b<256:=Nat.or_lt_two_pow (n:=8) ha hb
theorem land256 {a b:Nat} (ha:a<256):Nat.land a b<256:=Nat.lt_of_le_of_lt Nat.and_le_left ha
section
variable (Hh:Hearts K Tryz.prog)
include Hh
theorem isOk (h:Go.Ev.H) (i:Nat) (hi:i<2048):Zg 189 [.c (.int .i64 i)] h (.w (.c (.bool true))) h:=by
 refine fnG Hh Tryz.f189 ?_
 iterate 5 (first|apply Zp|apply Yb|refine Zy Hh Za Zj ?_)
 exact Zj
theorem Zoj (h:Go.Ev.H) (i:Nat):Zg 190 [.c (.int .i64 i)] h (.w (.c (.int .u8 ((2 ^ (i % 8):Nat):Int)))) h:=by
 have r1:Ti .i64 (i:Int) 8=some (.int .i64 ((i % 8:Nat):Int)):=Xw (b:=8) (by omega)
 have s1:Wv .u8 1 ((i % 8:Nat):Int)=some (.int .u8 ((2 ^ (i % 8):Nat):Int)):=by
  have h8:=Xv i
  unfold Wv
  rw[decide_eq_false (by omega),cond_false]
  have e:min ((i % 8:Nat):Int).toNat IntKind.u8.bits=i % 8:=by
   show min ((i % 8:Nat):Int).toNat 8=i % 8
   omega
  rw[e,Int.one_mul,Zdx ⟨Int.pow_nonneg (by omega),by exact_mod_cast h8⟩]
  congr 2
 refine fnG Hh Tryz.f190 ?_
 have Jf:=Uq @r1 @s1
 iterate 5 (first|apply Zp|apply Yb|refine Zy Hh Za Zq ?_)
 exact Zq
theorem Z5u (h:Go.Ev.H) (b i:Nat) (g:Nat→Bool) (hi:i<2048) (hg:g i=false) (hb:h.get b=some (.row 256 [Ov g] false)):Zg 165 [.c (.ptr b 0),.c (.int .i64 i)] h (.w (.c (.bool true))) (h.put b (.row 256 [Ov (Zch g i)] false)):=by
 have c1:=isOk Hh h i hi
 have c2:=Zoj Hh h i
 have q1:F9 .i64 (i:Int) 8=some (.int .i64 ((i / 8:Nat):Int)):=Nc (b:=8) (by omega) (by omega)
 have rd:read1 256 [Ov g] (i / 8)=some (.int .u8 ((byB g (i / 8):Nat):Int)):=by
  unfold read1
  rw[Nat.div_eq_of_lt (by omega),Nat.mod_eq_of_lt (by omega),List.getElem?_cons_zero]
  exact Zb7 g _ (by omega)
 have wr:Z9 256 [Ov g] (i / 8) [.int .u8 ((Nat.lor (byB g (i / 8)) (2 ^ (i % 8)):Nat):Int)]=some [Ov (Zch g i)]:=by
  simp only[Z9]
  rw[Nat.div_eq_of_lt (by omega),Nat.mod_eq_of_lt (by omega),List.getElem?_cons_zero]
  simp only[Lp]
  rw[Zd8 (by omega),cond_true,Zs7 g i hi]
  rfl
 have l1:Bd .u8 Nat.land ((byB g (i / 8):Nat):Int) ((2 ^ (i % 8):Nat):Int)=.int .u8 ((0:Nat):Int):=by
  rw[Zqq (R3 _ _) (Xv _) (land256 (R3 _ _)),Zd9,hg]
  rfl
 have l2:Bd .u8 Nat.lor ((byB g (i / 8):Nat):Int) ((2 ^ (i % 8):Nat):Int)=.int .u8 ((Nat.lor (byB g (i / 8)) (2 ^ (i % 8)):Nat):Int):=Zqq (R3 _ _) (Xv _) (lor256 (R3 _ _) (Xv _))
 refine fnG Hh Tryz.f165 ?_
 have Jf:=Qu @q1 @rd @wr @l1 @l2 @hb
 iterate 4 (first|apply Zp|refine Zy Hh Za Zq ?_)
 iterate 4 (first|apply Zp|apply Z6|refine Goes.Zn Zq ?_|refine Ms Hh (Zu (Zu Za c1) c2) Vb ?_)
 iterate 4 (first|apply Zp|apply Yb|refine Zy Hh (Zu Za c2) Zq ?_|refine Ms Hh (Zu Za c2) Vb ?_)
 exact Zq
end
end Go.Proofs.YtdmendgkbikkaaaGreatDoor
set_option maxRecDepth 100000
set_option maxHeartbeats 4000000
namespace Go.Proofs.YtdmendgkbikkaaaGreatDoor
open Go.Ev
theorem Zg5 {sz k j:Nat} {L:List (List C)} {x:List C} {c:C} (hx:L[k]? = some x) (xl:x.length=sz) (hj:j<sz):Z9 sz L (k * sz+j) [c]=some (L.set k (x.set j c)):=by
 have e1:(k * sz+j) / sz=k:=by rw[Nat.mul_comm,Nat.mul_add_div (by omega),Nat.div_eq_of_lt hj,Nat.add_zero]
 have e2:(k * sz+j) % sz=j:=by rw[Nat.mul_comm,Nat.mul_add_mod,Nat.mod_eq_of_lt hj]
 simp only[Z9,e1,e2,hx]
 rw[Zd8 (by omega),cond_true]
def Zgv (g:Nat→Bool):List Nat:=(List.range 256).map (byB g)
theorem Zu5 (g:Nat→Bool):(Zgv g).length=256:=by simp [Zgv]
theorem Znw (g:Nat→Bool):Ov g=pgL (Zgv g):=by
 unfold Ov pgL Zgv
 rw[List.map_map]
 refine List.map_congr_left fun t _=>?_
 show C.int .u8 ((byB g t:Nat):Int)=.int .u8 ((byB g t % 256:Nat):Int)
 rw[Nat.mod_eq_of_lt (R3 g t)]
def Zny (D:List Oi):List Nat:=De (Fh D 0 Gn)
theorem Zlm (D:List Oi):(Zny D).length=256:=by unfold Zny; rw[De,Zav,Zed]; exact Zkw
def Des (V:Nat→List Nat) (a b c:Nat) (D:List Oi):Prop:=goodD (V 1) a b c=true∧Be (V 1) a 0=D∧D.length=a
noncomputable def q211 (p:List Nat):Code:=piece p (Ut Tryz.f211)
theorem rs211:Tryz.f211.results.toList=[.tmp 6]:=rfl
attribute [go_sem] rs211
section
variable (Hh:Hearts K Tryz.prog)
include Hh
theorem Zso (g:Nat→Bool) {p t u:Nat} (tu:t≤u) (u2:u≤2048) (ht:t<u→g t=false) {h:Go.Ev.H} (hp:h.get p=some (.row 256 [Ov g] false)):∀ (k i:Nat) (ts:Zw),i+k=t→(∀ j,i≤j→j<t→g j=true)→Zi ts 3=.w (.c (.ptr p 0))→Zi ts 2=.w (.c (.int .i64 (u:Int)))→Zi ts 7=.w (.c (.int .i64 (i:Int))) →
  Ya 27 none (q211 [1,1,0,1,2]) [] ts h fun x ds' ts' h'=>((t<u∧x=.ret∧Zi ts' 6=.w (.c (.int .i64 (t:Int))))∨(t=u∧x=.exit 0))∧ds'=[]∧h'=h:=by
 intro k
 induction k with
 | zero =>
  intro i ts hi _ t3 t2 t7
  obtain rfl:i=t:=by omega
  rcases Nat.lt_or_ge i u with lt|ge
  ·have gi:=ht lt
   have cm:=fun h=>Zoj Hh h i
   have q1:F9 .i64 (i:Int) 8=some (.int .i64 ((i / 8:Nat):Int)):=Nc (b:=8) (by omega) (by omega)
   have rd:read1 256 [Ov g] (i / 8)=some (.int .u8 ((byB g (i / 8):Nat):Int)):=by
    unfold read1
    rw[Nat.div_eq_of_lt (by omega),Nat.mod_eq_of_lt (by omega),List.getElem?_cons_zero]
    exact Zb7 g _ (by omega)
   have l1:Bd .u8 Nat.land ((byB g (i / 8):Nat):Int) ((2 ^ (i % 8):Nat):Int)=.int .u8 ((0:Nat):Int):=by
    rw[Zqq (R3 _ _) (Xv _) (land256 (R3 _ _)),Zd9,gi]
    rfl
   have Jf:=Qv @t2 @t3 @t7 @hp @q1 @rd @l1
   iterate 9 (first|apply Zp|apply Z6|apply Yk|apply Yt|refine Goes.Zn Zq ?_|refine Zy Hh Za Zq ?_)
   iterate 5 (first|apply Zp|apply Yb|refine Goes.Zn Zq ?_|refine Zy Hh (U5 Za cm) Zq ?_|refine Ms Hh (U5 Za cm) Vb ?_)
   refine⟨.inl ⟨lt,rfl,?_⟩,rfl,rfl⟩
   exact Zq
  ·obtain rfl:i=u:=by omega
   have Jf:=Uq @t2 @t7
   iterate 6 (first|apply Zp|apply Oe|apply Yt|refine Goes.Zn Zq ?_|refine Zy Hh Za Zq ?_)
   exact⟨.inr ⟨rfl,rfl⟩,rfl,rfl⟩
 | succ k ih =>
  intro i ts hi all t3 t2 t7
  have gi:=all i (by omega) (by omega)
  have cm:=fun h=>Zoj Hh h i
  have q1:F9 .i64 (i:Int) 8=some (.int .i64 ((i / 8:Nat):Int)):=Nc (b:=8) (by omega) (by omega)
  have rd:read1 256 [Ov g] (i / 8)=some (.int .u8 ((byB g (i / 8):Nat):Int)):=by
   unfold read1
   rw[Nat.div_eq_of_lt (by omega),Nat.mod_eq_of_lt (by omega),List.getElem?_cons_zero]
   exact Zb7 g _ (by omega)
  have p1:0<2 ^ (i % 8):=Nat.pow_pos (by omega)
  have e1:(((2 ^ (i % 8):Nat):Int) == 0)=false:=Bl (by exact_mod_cast (Nat.pos_iff_ne_zero.1 p1))
  have l1:Bd .u8 Nat.land ((byB g (i / 8):Nat):Int) ((2 ^ (i % 8):Nat):Int)=.int .u8 ((2 ^ (i % 8):Nat):Int):=by
   rw[Zqq (R3 _ _) (Xv _) (land256 (R3 _ _)),Zd9,gi]
   rfl
  have Jf:=Zd0 @t2 @t3 @t7 @hp @q1 @rd @l1 @e1
  iterate 9 (first|apply Zp|apply Z6|apply Yk|apply Yt|refine Goes.Zn Zq ?_|refine Zy Hh Za Zq ?_)
  iterate 4 (first|apply Z6|refine Goes.Zn Zq ?_|refine Zy Hh (U5 Za cm) Zq ?_|refine Ms Hh (U5 Za cm) Vb ?_)
  show Ya 27 none (q211 [1,1,0,1,2]) _ _ _ _
  refine ih (i+1) _ (by omega) (fun j h1 h2=>all j (by omega) h2) ?_ ?_ ?_
  ·have Jf:=@t3; exact Zq
  ·have Jf:=@t2; exact Zq
  ·exact Zj
theorem Z2z (g:Nat→Bool) {s t u:Nat} (st:s≤t) (tu:t≤u) (u2:u≤2048) (all:∀ j,s≤j→j<t→g j=true) (ht:t<u→g t=false) (h:Go.Ev.H):Zg 211 [.g (Ov g),.c (.int .i64 (s:Int)),.c (.int .i64 (u:Int))] h (.w (.c (.int .i64 (if t<u then (t:Int) else -1)))) h:=by
 have mx:max (s:Int) 0=(s:Int):=by omega
 have mn:min (u:Int) 2048=(u:Int):=by omega
 have mi:¬(2048<(u:Int)):=by omega
 have mj:¬((s:Int)<0):=by omega
 have pl:=Lp g
 have lp:=fun (h:Go.Ev.H) (p:Nat) hp=>Zso Hh g tu u2 ht (h:=h) (p:=p) hp (t - s) s
 obtain⟨G,hG⟩:∃ G,Ov g=G:=⟨_,rfl⟩
 rw[hG] at pl ⊢
 simp only[hG] at lp
 refine Wo rfl ?_
 refine Jd Hh Tryz.f211 ?_
 iterate 8 (first|apply Zp|apply Yk|(apply Goes.ops2 fits Hh Za; · simp (maxSteps:=9^6) +decide (disch:=first|omega|(simp only[lens]<;>omega)|decide) only [go_sem,Ze,simprocAttr,mx,mn,mi,mj,pl,if_neg,if_false,Zt,Yr,read1]<;>rfl))
 refine (lp _ h.next ?_ _ (by omega) all ?_ ?_ ?_).mono ?_
 ·have Jf:=@pl; exact Z5
 ·exact Jk
 ·simp (maxSteps:=9^6) +decide (disch:=first|omega|(simp only[lens]<;>omega)|decide) only [go_sem,Ze,simprocAttr,mx,mn,mi,mj,if_neg,if_false]<;>rfl
 ·simp (maxSteps:=9^6) +decide (disch:=first|omega|(simp only[lens]<;>omega)|decide) only [go_sem,Ze,simprocAttr,mx,mn,mi,mj,if_neg,if_false]<;>rfl
 rintro x ds' ts' h' ⟨hx,rfl,rfl⟩
 rcases hx with ⟨lt,rfl,t6⟩|⟨rfl,rfl⟩
 ·rw[if_pos lt]
  exact⟨_,_,(by have Jf:=@t6; exact Zq),rfl,fun m hm=>by exact Jg⟩
 ·rw[if_neg (Nat.lt_irrefl _)]
  iterate 3 (first|apply Zp|apply Yb|refine Zy Hh Za Zj ?_)
  exact⟨_,_,Zj,rfl,fun m hm=>by exact Jg⟩
end
end Go.Proofs.YtdmendgkbikkaaaGreatDoor
