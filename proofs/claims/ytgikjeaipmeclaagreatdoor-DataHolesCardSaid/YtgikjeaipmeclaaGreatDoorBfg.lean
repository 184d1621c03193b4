/- Store.Busy, where no block was given back. -/
import Derived.Test.YtgikjeaipmeclaaGreatDoorHdd
import Derived.Test.YtgikjeaipmeclaaGreatDoorEvC
import Derived.Test.YtgikjeaipmeclaaGreatDoorSli
import Derived.Test.YtgikjeaipmeclaaGreatDoorMpy
set_option linter.unusedSimpArgs false
set_option linter.unusedVariables false
set_option linter.unusedSectionVars false
set_option maxRecDepth 100000
set_option maxHeartbeats 4000000
namespace Go.Proofs.YtgikjeaipmeclaaGreatDoor
open Go.Ev
theorem ty286:K.types.get 286=some ti286:=by kernel_rfl
theorem sz286:ti286.size=1:=by rfl
theorem ag286:ti286.agg=false:=by rfl
theorem de286:ti286.desc=(.int .u64):=by rfl
theorem ze286:ti286.zero=(.c (.int .u64 0)):=by rfl
theorem by286:ti286.bytes=8:=by rfl
theorem ke286 (k:IntKind) (n:Int):Dj K 20 286 (.c (.int k n))=true:=by kernel_rfl
attribute [go_sem] ty286 sz286 ag286 de286 ze286 by286 ke286
theorem rs213:Tryz.f213.results.toList=[.tmp 2]:=rfl
theorem rs173:Tryz.f173.results.toList=[.tmp 2]:=rfl
theorem rs138:Tryz.f138.results.toList=[.tmp 2]:=rfl
theorem rs229:Tryz.f229.results.toList=[.tmp 4,.tmp 5]:=rfl
theorem rs186:Tryz.f186.results.toList=[.tmp 4]:=rfl
attribute [go_sem] rs213 rs173 rs138 rs229 rs186
noncomputable def Zoz:Kn1:=fun args h=>match args with
 | [.c (.map m)]=>some (.w (.c (.fn 241 [] [some (h.next,0)])),h.new (.row 1 [[.map m]] false))
 | _=>none
noncomputable def Ztr:Kn1:=fun args h=>match args with
 | [.c (.map m)]=>Yr (Ga h m) (some (.w (.c .snil),h))
 | _=>none
noncomputable def Zhv:Kn1:=fun args h=>match args with
 | [.c (.ptr t 0)]=>(Uo h t).bind fun X=>Yr (Ga h X.fr) (some (.w (.c .snil),h))
 | _=>none
noncomputable def Zu0:Kn1:=fun args h=>match args with
 | [.c .snil,.c (.int .i64 _)]=>some (.tup [.c (.int .i64 0),.c (.bool false)],h)
 | _=>none
def Zn2:C→Bool
 | .snil=>true
 | _=>false
theorem Zr4 {c:C} (e:Zn2 c=true):c=.snil:=by
 cases c<;>first|rfl|cases e
noncomputable def Zbj:Kn1:=fun args h=>match args with
 | [.c (.ptr s 0),.c (.int .i64 _)]=>(Ot h s).bind fun S=>(Uo h S.tx).bind fun X=>Yr (Ga h X.fr&&Zn2 S.bs) (some (.w (.c (.bool false)),bif S.kn then h else h.put s (.row 8 [stL { S with kn:=true }] false)))
 | _=>none
attribute [go_sem] Zoz Ztr Zhv Zu0 Zbj Zn2
section
variable (Hh:Hearts K Tryz.prog)
include Hh
theorem Zqr {args:List W} {h h':Go.Ev.H} {v:V} (e:Zoz args h=some (v,h')):Ze K Tryz.prog 213 args h v h':=by
 unfold Zoz at e
 split at e
 ·cases e
  refine Ze.goes fits Hh (by kernel_rfl) (by kernel_rfl) (by kernel_rfl) (show Tryz.f213.body=some _ from rfl) rfl ?_
  repeat (first|apply Goes.seq|apply Goes.block|apply Goes.loop|apply Goes.skip|apply Goes.exit|apply Goes.ret|((first|apply Goes.Zm|apply Goes.ops2 fits Hh Zc); · simp (maxSteps:=9^6) +decide (disch:=first|omega|(simp only[lens]<;>omega)|decide) only [go_sem,Zb,Za,simprocAttr,Zx]<;>rfl))
  simp (maxSteps:=9^6) +decide (disch:=first|omega|(simp only[lens]<;>omega)|decide) only [go_sem,Zb,Za,simprocAttr]<;>rfl
 ·cases e
theorem Zwu {args:List W} {h h':Go.Ev.H} {v:V} (e:Ztr args h=some (v,h')):Ze K Tryz.prog 173 args h v h':=by
 unfold Ztr at e
 split at e
 ·rename_i m
  obtain⟨b,e⟩:=Zq.1 e
  have hm:=Yt b
  cases e
  refine Ze.tidy ⟨Tryz.f173,Tryz.func173,by kernel_rfl,by decide⟩ fun tidy=>?_
  have l2:=tidy _ _ hm
  obtain⟨v,h',cc,rfl,hk⟩:∃ v h',Ze K Tryz.prog 173 [.c (.map m)] h v h'∧v=.w (.c .snil)∧∀ j,j<h.next→h'.get j=h.get j:=by
   refine Ze.Yi fits Hh (by kernel_rfl) (by kernel_rfl) (by kernel_rfl) (show Tryz.f173.body=some _ from rfl) rfl ?_
   repeat (first|apply Goes.seq|apply Goes.block|apply Goes.loop|apply Goes.skip|apply Goes.exit|apply Goes.ret|((first|apply Goes.Zm|apply Goes.ops2 fits Hh (Zf (Zf Zc (fun _ _ _ _=>Zqr Hh)) (fun _ _ _ _=>Zei Hh))); · simp (maxSteps:=9^6) +decide (disch:=first|omega|(simp only[lens]<;>omega)|decide) only [go_sem,Zb,Za,simprocAttr,hm,read1]<;>rfl))
   exact⟨_,_,(by simp (maxSteps:=9^6) +decide (disch:=first|omega|(simp only[lens]<;>omega)|decide) only [go_sem,Zb,Za,simprocAttr]<;>rfl),rfl,fun j hj=>by simp (disch:=first|omega|(simp only[lens]<;>omega)) only [go_sem]⟩
  exact cc.quiet rfl hk
 ·cases e
theorem Zoo {args:List W} {h h':Go.Ev.H} {v:V} (e:Zhv args h=some (v,h')):Ze K Tryz.prog 138 args h v h':=by
 unfold Zhv at e
 split at e
 ·rename_i t
  obtain⟨X,ht,e⟩:=Zl e
  have ht:=Ym ht
  obtain⟨b,e⟩:=Zq.1 e
  have hm:=Yt b
  cases e
  refine Ze.goes fits Hh (by kernel_rfl) (by kernel_rfl) (by kernel_rfl) (show Tryz.f138.body=some _ from rfl) rfl ?_
  repeat (first|apply Goes.seq|apply Goes.block|apply Goes.loop|apply Goes.skip|apply Goes.exit|apply Goes.ret|((first|apply Goes.Zm|apply Goes.ops2 fits Hh (Zf (Zf Zc (fun _ _ _ _=>O0 Hh)) (fun _ _ _ _=>Zwu Hh))); · simp (maxSteps:=9^6) +decide (disch:=first|omega|(simp only[lens]<;>omega)|decide) only [go_sem,Zb,Za,simprocAttr,ht,hm,read1]<;>rfl))
  simp (maxSteps:=9^6) +decide (disch:=first|omega|(simp only[lens]<;>omega)|decide) only [go_sem,Zb,Za,simprocAttr]<;>rfl
 ·cases e
theorem Zlh {args:List W} {h h':Go.Ev.H} {v:V} (e:Zu0 args h=some (v,h')):Ze K Tryz.prog 229 args h v h':=by
 unfold Zu0 at e
 split at e
 ·cases e
  have lf:=Zlp
  have d0:decide ((0:Int)<0)=false:=rfl
  refine Ze.goes fits Hh (by kernel_rfl) (by kernel_rfl) (by kernel_rfl) (show Tryz.f229.body=some _ from rfl) rfl ?_
  iterate 15 (first|apply Goes.seq|apply Goes.block|apply Goes.exit|apply Goes.loop|((first|apply Goes.Zm|apply Goes.ops2 fits Hh Zc); · simp (maxSteps:=9^6) +decide (disch:=first|omega|(simp only[lens]<;>omega)|decide) only [go_sem,Zb,Za,simprocAttr,lf,d0,Zh,Ye]<;>rfl))
  refine Goes.ops2 fits Hh Zc (by
   iterate 25 (refine Zz (by simp (maxSteps:=9^6) +decide (disch:=first|omega|(simp only[lens]<;>omega)|decide) only [go_sem,Zb,Za,simprocAttr,lf,d0,Zh,Ye]<;>rfl) ?_)
   exact Z0) ?_
  apply Goes.ret
  simp (maxSteps:=9^6) +decide (disch:=first|omega|(simp only[lens]<;>omega)|decide) only [go_sem,Zb,Za,simprocAttr]<;>rfl
 ·cases e
theorem Zrs {args:List W} {h h':Go.Ev.H} {v:V} (e:Zbj args h=some (v,h')):Ze K Tryz.prog 186 args h v h':=by
 unfold Zbj at e
 split at e
 ·rename_i s z
  obtain⟨S,hs,e⟩:=Zl e
  have hs:=Yx hs
  obtain⟨X,ht,e⟩:=Zl e
  have ht:=Ym ht
  obtain⟨b,e⟩:=Zq.1 e
  rw[Bool.and_eq_true] at b
  have hm:=Yt b.1
  obtain⟨gd,tx,dt,gv,bs,kn⟩:=S
  have eb:bs=.snil:=Zr4 b.2
  subst eb
  have n1:tx≠s:=fun e1=>by simp only[e1] at ht; rw[ht] at hs; cases hs
  have n2:X.fr≠s:=fun e1=>by rw[e1,hs] at hm; cases hm
  have pp:=@H.Zcz
  cases kn with
  | true =>
   cases e
   refine Ze.goes fits Hh (by kernel_rfl) (by kernel_rfl) (by kernel_rfl) (show Tryz.f186.body=some _ from rfl) rfl ?_
   iterate 17 (first|apply Goes.seq|apply Goes.skip|apply Goes.ret|((first|apply Goes.Zm|apply Goes.ops2 fits Hh (Zf (Zf Zc (fun _ _ _ _=>Ut Hh)) (fun _ _ _ _=>Zlh Hh))); · simp (maxSteps:=9^6) +decide (disch:=first|omega|(simp only[lens]<;>omega)|decide) only [go_sem,Zb,Za,simprocAttr,hs,ht,hm,read1]<;>rfl))
   simp (maxSteps:=9^6) +decide (disch:=first|omega|(simp only[lens]<;>omega)|decide) only [go_sem,Zb,Za,simprocAttr]<;>rfl
  | false =>
   cases e
   refine Ze.goes fits Hh (by kernel_rfl) (by kernel_rfl) (by kernel_rfl) (show Tryz.f186.body=some _ from rfl) rfl ?_
   iterate 26 (first|apply Goes.seq|apply Goes.skip|apply Goes.ret|((first|apply Goes.Zm|apply Goes.ops2 fits Hh (Zf (Zf (Zf (Zf Zc (fun _ _ _ _=>Ut Hh)) (fun _ _ _ _=>Zoo Hh)) (fun _ _ _ _=>Zf8 Hh)) (fun _ _ _ _=>Zlh Hh))); · simp (maxSteps:=9^6) +decide (disch:=first|omega|(simp only[lens]<;>omega)|decide) only [go_sem,Zb,Za,simprocAttr,hs,ht,hm,read1,Z4]<;>rfl))
   simp (maxSteps:=9^6) +decide (disch:=first|omega|(simp only[lens]<;>omega)|decide) only [go_sem,Zb,Za,simprocAttr,pp]<;>rfl
 ·cases e
end
section
variable {n q a b c e:Nat} {cr:Cr} {md:Int} {h:Go.Ev.H} {S T:List Nat} {V:Nat→List Nat}
theorem HE.busy (M:HE n q a b c e cr md S T V h) (z:Int):∃ h',Zbj [.c (.ptr (n+13) 0),.c (.int .i64 z)] h=some (.w (.c (.bool false)),h')∧HE n q a b c e cr md S T V h'∧h'.next=h.next∧∀ m,m≠n+13→h'.get m=h.get m:=by
 obtain⟨d,d1,d2,kn,ld,lt,lc,lm,L,fl,sn,ft,fc,t5,vt,t7,t8,t9,tT,see,M⟩:=M
 have MM:=M
 obtain⟨f1,f2,f3,f4,l1,l2,f5,f6,f7,f8,f9,f10,f11,f12,f13,f14,f15,f16,f17,f18,f19,f20,f21⟩:=M
 cases kn with
 | true=>exact⟨h,by unfold Zbj; simp (maxSteps:=9^6) +decide (disch:=first|omega|(simp only[lens]<;>omega)|decide) only [go_sem,Zb,Za,simprocAttr,f19,stG,f5,txC,f12]<;>rfl,⟨d,d1,d2,true,ld,lt,lc,lm,L,fl,sn,ft,fc,t5,vt,t7,t8,t9,tT,see,MM⟩,rfl,fun _ _=>rfl⟩
 | false =>
  refine⟨h.put (n+13) (.row 8 [stL (stG n q true)] false),by unfold Zbj; simp (maxSteps:=9^6) +decide (disch:=first|omega|(simp only[lens]<;>omega)|decide) only [go_sem,Zb,Za,simprocAttr,f19,stG,f5,txC,f12]<;>rfl,⟨d,d1,d2,true,ld,lt,lc,lm,L,fl,sn,ft,fc,t5,vt,t7,t8,t9,tT,see,?_⟩,rfl,fun m hm=>Zp hm⟩
  refine⟨?_,f2,f3,f4,l1,l2,?_,?_,?_,?_,?_,?_,?_,?_,?_,?_,?_,?_,?_,?_,Z8 _ _ _,?_,?_⟩
  all_goals (rw[Zp (by omega)]; assumption)
end
end Go.Proofs.YtgikjeaipmeclaaGreatDoor
set_option maxRecDepth 100000
namespace Go.Proofs.YtgikjeaipmeclaaGreatDoor
open Go.Ev
theorem ty114:K.types.get 114=some ti114:=by kernel_rfl
theorem sz114:ti114.size=1:=by rfl
theorem ag114:ti114.agg=false:=by rfl
theorem de114:ti114.desc=(.pointer 71):=by rfl
theorem ze114:ti114.zero=(.c (.pnil)):=by rfl
theorem by114:ti114.bytes=8:=by rfl
attribute [go_sem] ty3 sz3 ag3 de3 ze3 by3 ke3 ty4 sz4 ag4 de4 ze4 by4 ty5 sz5 ag5 de5 ze5 by5 ke5 ty71 sz71 ag71 de71 ze71 by71 eq71 ty114 sz114 ag114 de114 ze114 by114
theorem rs187:Tryz.f187.results.toList=[.tmp 2]:=rfl
theorem rs188:Tryz.f188.results.toList=[.tmp 2]:=rfl
theorem rs150:Tryz.f150.results.toList=[.tmp 4]:=rfl
attribute [go_sem] rs187 rs188 rs150
def b8 (b0 b1 b2 b3 b4 b5 b6 b7:Bool):Nat:=b0.toNat+2 * b1.toNat+4 * b2.toNat+8 * b3.toNat+16 * b4.toNat+32 * b5.toNat+64 * b6.toNat+128 * b7.toNat
theorem Z2q:∀ b0 b1 b2 b3 b4 b5 b6 b7:Bool,b8 b0 b1 b2 b3 b4 b5 b6 b7<256:=by decide +kernel
theorem land8:∀ b0 b1 b2 b3 b4 b5 b6 b7:Bool,∀ j:Fin 8,Nat.land (b8 b0 b1 b2 b3 b4 b5 b6 b7) (2 ^ j.1)=if [b0,b1,b2,b3,b4,b5,b6,b7].getD j.1 false=true then 2 ^ j.1 else 0:=by decide +kernel
theorem lor8:∀ b0 b1 b2 b3 b4 b5 b6 b7:Bool,∀ j:Fin 8,Nat.lor (b8 b0 b1 b2 b3 b4 b5 b6 b7) (2 ^ j.1)=b8 (b0 || decide (j.1=0)) (b1 || decide (j.1=1)) (b2 || decide (j.1=2)) (b3 || decide (j.1=3)) (b4 || decide (j.1=4)) (b5 || decide (j.1=5)) (b6 || decide (j.1=6)) (b7 || decide (j.1=7)):=by decide +kernel
def byB (g:Nat→Bool) (t:Nat):Nat:=b8 (g (8 * t)) (g (8 * t+1)) (g (8 * t+2)) (g (8 * t+3)) (g (8 * t+4)) (g (8 * t+5)) (g (8 * t+6)) (g (8 * t+7))
def Oe (g:Nat→Bool):List C:=(List.range 256).map fun t=>C.int .u8 ((byB g t:Nat):Int)
def Wz (g:Nat→Bool) (i:Nat):Nat→Bool:=fun j=>g j || decide (j=i)
theorem Lb (g:Nat→Bool):(Oe g).length=256:=by simp [Oe]
theorem Zbl (g:Nat→Bool) (t:Nat) (h:t<256):(Oe g)[t]? = some (C.int .u8 ((byB g t:Nat):Int)):=by simp [Oe,h]
theorem sel8 (g:Nat→Bool) (i:Nat):[g (8 * (i / 8)),g (8 * (i / 8)+1),g (8 * (i / 8)+2),g (8 * (i / 8)+3),g (8 * (i / 8)+4),g (8 * (i / 8)+5),g (8 * (i / 8)+6),g (8 * (i / 8)+7)].getD (i % 8) false=g i:=by
 have e:=Nat.div_add_mod i 8
 obtain⟨t,ht⟩:∃ t,i / 8=t:=⟨_,rfl⟩
 rw[ht] at e ⊢
 have hj:i % 8=0∨i % 8=1∨i % 8=2∨i % 8=3∨i % 8=4∨i % 8=5∨i % 8=6∨i % 8=7:=by omega
 rcases hj with h|h|h|h|h|h|h|h<;>rw[h] at e ⊢ <;> rw[←e]<;>rfl
theorem Zfe (g:Nat→Bool) (i:Nat):Nat.land (byB g (i / 8)) (2 ^ (i % 8))=if g i=true then 2 ^ (i % 8) else 0:=by
 have:=land8 (g (8 * (i / 8))) (g (8 * (i / 8)+1)) (g (8 * (i / 8)+2)) (g (8 * (i / 8)+3)) (g (8 * (i / 8)+4)) (g (8 * (i / 8)+5)) (g (8 * (i / 8)+6)) (g (8 * (i / 8)+7)) ⟨i % 8,by omega⟩
 simp only[sel8] at this
 exact this
theorem Zxp (g:Nat→Bool) (i:Nat):Nat.lor (byB g (i / 8)) (2 ^ (i % 8))=byB (Wz g i) (i / 8):=by
 have:=lor8 (g (8 * (i / 8))) (g (8 * (i / 8)+1)) (g (8 * (i / 8)+2)) (g (8 * (i / 8)+3)) (g (8 * (i / 8)+4)) (g (8 * (i / 8)+5)) (g (8 * (i / 8)+6)) (g (8 * (i / 8)+7)) ⟨i % 8,by omega⟩
 refine this.trans ?_
 have e:=Nat.div_add_mod i 8
 unfold byB Wz
 have q:∀ k,k<8→decide (i % 8=k)=decide (8 * (i / 8)+k=i):=fun k hk=>by
  rw[decide_eq_decide]
  omega
 have q0:=q 0 (by omega)
 rw[Nat.add_zero] at q0
 simp only[q0,q 1 (by omega),q 2 (by omega),q 3 (by omega),q 4 (by omega),q 5 (by omega),q 6 (by omega),q 7 (by omega)]
theorem Zqn (g:Nat→Bool) (i t:Nat) (h:t≠i / 8):byB (Wz g i) t=byB g t:=by
 unfold byB Wz
 have q:∀ k,k<8→decide (8 * t+k=i)=false:=fun k hk=>decide_eq_false (by omega)
 have q0:=q 0 (by omega)
 rw[Nat.add_zero] at q0
 simp only[q0,q 1 (by omega),q 2 (by omega),q 3 (by omega),q 4 (by omega),q 5 (by omega),q 6 (by omega),q 7 (by omega),Bool.or_false]
theorem Zsm (g:Nat→Bool) (i:Nat) (hi:i<2048):(Oe g).set (i / 8) (.int .u8 ((Nat.lor (byB g (i / 8)) (2 ^ (i % 8)):Nat):Int))=Oe (Wz g i):=by
 refine List.ext_getElem (by simp [Oe]) fun t h1 h2=>?_
 rw[List.getElem_set]
 simp only[Oe,List.getElem_map,List.getElem_range]
 by_cases e:i / 8=t
 ·rw[if_pos e,Zxp,e]
 ·rw[if_neg e,Zqn _ _ _ (fun x=>e x.symm)]
theorem R9 (g:Nat→Bool) (t:Nat):byB g t<256:=Z2q ..
theorem Vy (i:Nat):2 ^ (i % 8)<256:=Nat.lt_of_lt_of_le (Nat.pow_lt_pow_right (by omega) (show i % 8<8 by omega)) (by decide)
theorem lor256 {a b:Nat} (ha:a<256) (hb:b<256):Nat.lor a b<256:=Nat.or_lt_two_pow (n:=8) ha hb
theorem land256 {a b:Nat} (ha:a<256):Nat.land a b<256:=Nat.lt_of_le_of_lt Nat.and_le_left ha
section
variable (Hh:Hearts K Tryz.prog)
include Hh
theorem isOk (h:Go.Ev.H) (i:Nat) (hi:i<2048):Ze K Tryz.prog 187 [.c (.int .i64 i)] h (.w (.c (.bool true))) h:=by
 refine Ze.goes fits Hh (by kernel_rfl) (by kernel_rfl) (by kernel_rfl) (show Tryz.f187.body=some _ from rfl) rfl ?_
 iterate 5 (first|apply Goes.seq|apply Goes.ret|(apply Goes.ops2 fits Hh Zc; · simp (maxSteps:=9^6) +decide (disch:=first|omega|(simp only[lens]<;>omega)|decide) only [go_sem,Zb,Za,simprocAttr]<;>rfl))
 simp (maxSteps:=9^6) +decide (disch:=first|omega|(simp only[lens]<;>omega)|decide) only [go_sem,Zb,Za,simprocAttr]<;>rfl
theorem Zml (h:Go.Ev.H) (i:Nat):Ze K Tryz.prog 188 [.c (.int .i64 i)] h (.w (.c (.int .u8 ((2 ^ (i % 8):Nat):Int)))) h:=by
 have r1:Bo .i64 (i:Int) 8=some (.int .i64 ((i % 8:Nat):Int)):=U3 (b:=8) (by omega)
 have s1:X0 .u8 1 ((i % 8:Nat):Int)=some (.int .u8 ((2 ^ (i % 8):Nat):Int)):=by
  have h8:=Vy i
  unfold X0
  rw[decide_eq_false (by omega),cond_false]
  have e:min ((i % 8:Nat):Int).toNat IntKind.u8.bits=i % 8:=by
   show min ((i % 8:Nat):Int).toNat 8=i % 8
   omega
  rw[e,Int.one_mul,Zaj ⟨Int.pow_nonneg (by omega),by exact_mod_cast h8⟩]
  congr 2
 refine Ze.goes fits Hh (by kernel_rfl) (by kernel_rfl) (by kernel_rfl) (show Tryz.f188.body=some _ from rfl) rfl ?_
 iterate 5 (first|apply Goes.seq|apply Goes.ret|(apply Goes.ops2 fits Hh Zc; · simp (maxSteps:=9^6) +decide (disch:=first|omega|(simp only[lens]<;>omega)|decide) only [go_sem,Zb,Za,simprocAttr,r1,s1]<;>rfl))
 simp (maxSteps:=9^6) +decide (disch:=first|omega|(simp only[lens]<;>omega)|decide) only [go_sem,Zb,Za,simprocAttr,r1,s1]<;>rfl
theorem Z27 (h:Go.Ev.H) (b i:Nat) (g:Nat→Bool) (hi:i<2048) (hg:g i=false) (hb:h.get b=some (.row 256 [Oe g] false)):Ze K Tryz.prog 150 [.c (.ptr b 0),.c (.int .i64 i)] h (.w (.c (.bool true))) (h.put b (.row 256 [Oe (Wz g i)] false)):=by
 have c1:=isOk Hh h i hi
 have c2:=Zml Hh h i
 have q1:Dz .i64 (i:Int) 8=some (.int .i64 ((i / 8:Nat):Int)):=Dn (b:=8) (by omega) (by omega)
 have rd:read1 256 [Oe g] (i / 8)=some (.int .u8 ((byB g (i / 8):Nat):Int)):=by
  unfold read1
  rw[Nat.div_eq_of_lt (by omega),Nat.mod_eq_of_lt (by omega),List.getElem?_cons_zero]
  exact Zbl g _ (by omega)
 have wr:Z4 256 [Oe g] (i / 8) [.int .u8 ((Nat.lor (byB g (i / 8)) (2 ^ (i % 8)):Nat):Int)]=some [Oe (Wz g i)]:=by
  simp only[Z4]
  rw[Nat.div_eq_of_lt (by omega),Nat.mod_eq_of_lt (by omega),List.getElem?_cons_zero]
  simp only[Lb]
  rw[Ze5 (by omega),cond_true,Zsm g i hi]
  rfl
 have l1:Gz .u8 Nat.land ((byB g (i / 8):Nat):Int) ((2 ^ (i % 8):Nat):Int)=.int .u8 ((0:Nat):Int):=by
  rw[Zo3 (R9 _ _) (Vy _) (land256 (R9 _ _)),Zfe,hg]
  rfl
 have l2:Gz .u8 Nat.lor ((byB g (i / 8):Nat):Int) ((2 ^ (i % 8):Nat):Int)=.int .u8 ((Nat.lor (byB g (i / 8)) (2 ^ (i % 8)):Nat):Int):=Zo3 (R9 _ _) (Vy _) (lor256 (R9 _ _) (Vy _))
 refine Ze.goes fits Hh (by kernel_rfl) (by kernel_rfl) (by kernel_rfl) (show Tryz.f150.body=some _ from rfl) rfl ?_
 iterate 4 (first|apply Goes.seq|(apply Goes.ops2 fits Hh Zc; · simp (maxSteps:=9^6) +decide (disch:=first|omega|(simp only[lens]<;>omega)|decide) only [go_sem,Zb,Za,simprocAttr,q1,rd,wr,l1,l2,hb]<;>rfl))
 iterate 4 (first|apply Goes.seq|apply Goes.skip|(apply Goes.Zm; · simp (maxSteps:=9^6) +decide (disch:=first|omega|(simp only[lens]<;>omega)|decide) only [go_sem,Zb,Za,simprocAttr,Zy,q1,rd,wr,l1,l2,hb]<;>rfl)|(apply Goes.drawn2 fits Hh (Zt (Zt Zc c1) c2) (by kernel_rfl); · simp (maxSteps:=9^6) +decide (disch:=first|omega|(simp only[lens]<;>omega)|decide) only [go_sem,Zb,Za,simprocAttr,drG,Zy,q1,rd,wr,l1,l2,hb]<;>rfl))
 iterate 4 (first|apply Goes.seq|apply Goes.ret|(apply Goes.ops2 fits Hh (Zt Zc c2); · simp (maxSteps:=9^6) +decide (disch:=first|omega|(simp only[lens]<;>omega)|decide) only [go_sem,Zb,Za,simprocAttr,Zy,q1,rd,wr,l1,l2,hb]<;>rfl)|(apply Goes.drawn2 fits Hh (Zt Zc c2) (by kernel_rfl); · simp (maxSteps:=9^6) +decide (disch:=first|omega|(simp only[lens]<;>omega)|decide) only [go_sem,Zb,Za,simprocAttr,drG,Zy,q1,rd,wr,l1,l2,hb]<;>rfl))
 simp (maxSteps:=9^6) +decide (disch:=first|omega|(simp only[lens]<;>omega)|decide) only [go_sem,Zb,Za,simprocAttr,q1,rd,wr,l1,l2,hb]<;>rfl
end
end Go.Proofs.YtgikjeaipmeclaaGreatDoor
set_option maxRecDepth 100000
set_option maxHeartbeats 4000000
namespace Go.Proofs.YtgikjeaipmeclaaGreatDoor
open Go.Ev
theorem Zf7 {sz k j:Nat} {L:List (List C)} {x:List C} {c:C} (hx:L[k]? = some x) (xl:x.length=sz) (hj:j<sz):Z4 sz L (k * sz+j) [c]=some (L.set k (x.set j c)):=by
 have e1:(k * sz+j) / sz=k:=by rw[Nat.mul_comm,Nat.mul_add_div (by omega),Nat.div_eq_of_lt hj,Nat.add_zero]
 have e2:(k * sz+j) % sz=j:=by rw[Nat.mul_comm,Nat.mul_add_mod,Nat.mod_eq_of_lt hj]
 simp only[Z4,e1,e2,hx]
 rw[Ze5 (by omega),cond_true]
def Zea (g:Nat→Bool):List Nat:=(List.range 256).map (byB g)
theorem Zwg (g:Nat→Bool):(Zea g).length=256:=by simp [Zea]
theorem Zme (g:Nat→Bool):Oe g=pgL (Zea g):=by
 unfold Oe pgL Zea
 rw[List.map_map]
 refine List.map_congr_left fun t _=>?_
 show C.int .u8 ((byB g t:Nat):Int)=.int .u8 ((byB g t % 256:Nat):Int)
 rw[Nat.mod_eq_of_lt (R9 g t)]
def Zej (D:List O3):List Nat:=Bl (Ep D 0 Gf)
theorem Zlb (D:List O3):(Zej D).length=256:=by unfold Zej; rw[Bl,Q9,Zd0]; exact Zia
def Des (V:Nat→List Nat) (a b c:Nat) (D:List O3):Prop:=goodD (V 1) a b c=true∧Gv (V 1) a 0=D∧D.length=a
noncomputable def q185 (p:List Nat):Code:=piece p (Uq Tryz.f185)
theorem rs185:Tryz.f185.results.toList=[.tmp 6]:=rfl
attribute [go_sem] rs185
section
variable (Hh:Hearts K Tryz.prog)
include Hh
theorem Zqc (g:Nat→Bool) {p t u:Nat} (tu:t≤u) (u2:u≤2048) (ht:t<u→g t=false) {h:Go.Ev.H} (hp:h.get p=some (.row 256 [Oe g] false)):∀ (k i:Nat) (ts:Zu),i+k=t→(∀ j,i≤j→j<t→g j=true)→Zk ts 3=.w (.c (.ptr p 0))→Zk ts 2=.w (.c (.int .i64 (u:Int)))→Zk ts 7=.w (.c (.int .i64 (i:Int))) →
  Goes K Tryz.prog 27 none (q185 [1,1,0,1,2]) [] ts h fun x ds' ts' h'=>((t<u∧x=.ret∧Zk ts' 6=.w (.c (.int .i64 (t:Int))))∨(t=u∧x=.exit 0))∧ds'=[]∧h'=h:=by
 intro k
 induction k with
 | zero =>
  intro i ts hi _ t3 t2 t7
  obtain rfl:i=t:=by omega
  rcases Nat.lt_or_ge i u with lt|ge
  ·have gi:=ht lt
   have cm:=fun h=>Zml Hh h i
   have q1:Dz .i64 (i:Int) 8=some (.int .i64 ((i / 8:Nat):Int)):=Dn (b:=8) (by omega) (by omega)
   have rd:read1 256 [Oe g] (i / 8)=some (.int .u8 ((byB g (i / 8):Nat):Int)):=by
    unfold read1
    rw[Nat.div_eq_of_lt (by omega),Nat.mod_eq_of_lt (by omega),List.getElem?_cons_zero]
    exact Zbl g _ (by omega)
   have l1:Gz .u8 Nat.land ((byB g (i / 8):Nat):Int) ((2 ^ (i % 8):Nat):Int)=.int .u8 ((0:Nat):Int):=by
    rw[Zo3 (R9 _ _) (Vy _) (land256 (R9 _ _)),Zfe,gi]
    rfl
   iterate 9 (first|apply Goes.seq|apply Goes.skip|apply Goes.block|apply Goes.loop|((first|apply Goes.Zm|apply Goes.ops2 fits Hh Zc); · simp (maxSteps:=9^6) +decide (disch:=first|omega|(simp only[lens]<;>omega)|decide) only [go_sem,Zb,Za,simprocAttr,t2,t3,t7,hp,q1,rd,l1]<;>rfl))
   iterate 5 (first|apply Goes.seq|apply Goes.ret|((first|apply Goes.Zm|apply Goes.ops2 fits Hh (J6 Zc cm)); · simp (maxSteps:=9^6) +decide (disch:=first|omega|(simp only[lens]<;>omega)|decide) only [go_sem,Zb,Za,simprocAttr,t2,t3,t7,hp,q1,rd,l1]<;>rfl)|(apply Goes.drawn2 fits Hh (J6 Zc cm) (by kernel_rfl); · simp (maxSteps:=9^6) +decide (disch:=first|omega|(simp only[lens]<;>omega)|decide) only [go_sem,Zb,Za,simprocAttr,drG,t2,t3,t7,hp,q1,rd,l1]<;>rfl))
   refine⟨.inl ⟨lt,rfl,?_⟩,rfl,rfl⟩
   simp (maxSteps:=9^6) +decide (disch:=first|omega|(simp only[lens]<;>omega)|decide) only [go_sem,Zb,Za,simprocAttr,t7]<;>rfl
  ·obtain rfl:i=u:=by omega
   iterate 6 (first|apply Goes.seq|apply Goes.exit|apply Goes.loop|((first|apply Goes.Zm|apply Goes.ops2 fits Hh Zc); · simp (maxSteps:=9^6) +decide (disch:=first|omega|(simp only[lens]<;>omega)|decide) only [go_sem,Zb,Za,simprocAttr,t2,t7]<;>rfl))
   exact⟨.inr ⟨rfl,rfl⟩,rfl,rfl⟩
 | succ k ih =>
  intro i ts hi all t3 t2 t7
  have gi:=all i (by omega) (by omega)
  have cm:=fun h=>Zml Hh h i
  have q1:Dz .i64 (i:Int) 8=some (.int .i64 ((i / 8:Nat):Int)):=Dn (b:=8) (by omega) (by omega)
  have rd:read1 256 [Oe g] (i / 8)=some (.int .u8 ((byB g (i / 8):Nat):Int)):=by
   unfold read1
   rw[Nat.div_eq_of_lt (by omega),Nat.mod_eq_of_lt (by omega),List.getElem?_cons_zero]
   exact Zbl g _ (by omega)
  have p1:0<2 ^ (i % 8):=Nat.pow_pos (by omega)
  have e1:(((2 ^ (i % 8):Nat):Int) == 0)=false:=Dx (by exact_mod_cast (Nat.pos_iff_ne_zero.1 p1))
  have l1:Gz .u8 Nat.land ((byB g (i / 8):Nat):Int) ((2 ^ (i % 8):Nat):Int)=.int .u8 ((2 ^ (i % 8):Nat):Int):=by
   rw[Zo3 (R9 _ _) (Vy _) (land256 (R9 _ _)),Zfe,gi]
   rfl
  iterate 9 (first|apply Goes.seq|apply Goes.skip|apply Goes.block|apply Goes.loop|((first|apply Goes.Zm|apply Goes.ops2 fits Hh Zc); · simp (maxSteps:=9^6) +decide (disch:=first|omega|(simp only[lens]<;>omega)|decide) only [go_sem,Zb,Za,simprocAttr,t2,t3,t7,hp,q1,rd,l1,e1]<;>rfl))
  iterate 4 (first|apply Goes.skip|((first|apply Goes.Zm|apply Goes.ops2 fits Hh (J6 Zc cm)); · simp (maxSteps:=9^6) +decide (disch:=first|omega|(simp only[lens]<;>omega)|decide) only [go_sem,Zb,Za,simprocAttr,t2,t3,t7,hp,q1,rd,l1,e1]<;>rfl)|(apply Goes.drawn2 fits Hh (J6 Zc cm) (by kernel_rfl); · simp (maxSteps:=9^6) +decide (disch:=first|omega|(simp only[lens]<;>omega)|decide) only [go_sem,Zb,Za,simprocAttr,drG,t2,t3,t7,hp,q1,rd,l1,e1]<;>rfl))
  show Goes K Tryz.prog 27 none (q185 [1,1,0,1,2]) _ _ _ _
  refine ih (i+1) _ (by omega) (fun j h1 h2=>all j (by omega) h2) ?_ ?_ ?_
  ·simp (maxSteps:=9^6) +decide (disch:=first|omega|(simp only[lens]<;>omega)|decide) only [go_sem,Zb,Za,simprocAttr,t3]
  ·simp (maxSteps:=9^6) +decide (disch:=first|omega|(simp only[lens]<;>omega)|decide) only [go_sem,Zb,Za,simprocAttr,t2]
  ·simp (maxSteps:=9^6) +decide (disch:=first|omega|(simp only[lens]<;>omega)|decide) only [go_sem,Zb,Za,simprocAttr]<;>rfl
theorem Z0c (g:Nat→Bool) {s t u:Nat} (st:s≤t) (tu:t≤u) (u2:u≤2048) (all:∀ j,s≤j→j<t→g j=true) (ht:t<u→g t=false) (h:Go.Ev.H):Ze K Tryz.prog 185 [.g (Oe g),.c (.int .i64 (s:Int)),.c (.int .i64 (u:Int))] h (.w (.c (.int .i64 (if t<u then (t:Int) else -1)))) h:=by
 have mx:max (s:Int) 0=(s:Int):=by omega
 have mn:min (u:Int) 2048=(u:Int):=by omega
 have mi:¬(2048<(u:Int)):=by omega
 have mj:¬((s:Int)<0):=by omega
 have pl:=Lb g
 have lp:=fun (h:Go.Ev.H) (p:Nat) hp=>Zqc Hh g tu u2 ht (h:=h) (p:=p) hp (t - s) s
 obtain⟨G,hG⟩:∃ G,Oe g=G:=⟨_,rfl⟩
 rw[hG] at pl ⊢
 simp only[hG] at lp
 obtain⟨v,h',cc,rfl,hk⟩:∃ v h',Ze K Tryz.prog 185 [.g G,.c (.int .i64 (s:Int)),.c (.int .i64 (u:Int))] h v h'∧v=.w (.c (.int .i64 (if t<u then (t:Int) else -1)))∧∀ m,m<h.next→h'.get m=h.get m:=by
  refine Ze.Yi fits Hh (by kernel_rfl) (by kernel_rfl) (by kernel_rfl) (show Tryz.f185.body=some _ from rfl) rfl ?_
  iterate 8 (first|apply Goes.seq|apply Goes.block|(apply Goes.ops2 fits Hh Zc; · simp (maxSteps:=9^6) +decide (disch:=first|omega|(simp only[lens]<;>omega)|decide) only [go_sem,Za,simprocAttr,mx,mn,mi,mj,pl,if_neg,if_false,Zh,Zx,read1]<;>rfl))
  refine (lp _ h.next ?_ _ (by omega) all ?_ ?_ ?_).mono ?_
  ·simp (maxSteps:=9^6) +decide (disch:=first|omega|(simp only[lens]<;>omega)|decide) only [go_sem,Za,simprocAttr,pl]<;>rfl
  ·simp (maxSteps:=9^6) +decide (disch:=first|omega|(simp only[lens]<;>omega)|decide) only [go_sem,Za,simprocAttr]<;>rfl
  ·simp (maxSteps:=9^6) +decide (disch:=first|omega|(simp only[lens]<;>omega)|decide) only [go_sem,Za,simprocAttr,mx,mn,mi,mj,if_neg,if_false]<;>rfl
  ·simp (maxSteps:=9^6) +decide (disch:=first|omega|(simp only[lens]<;>omega)|decide) only [go_sem,Za,simprocAttr,mx,mn,mi,mj,if_neg,if_false]<;>rfl
  rintro x ds' ts' h' ⟨hx,rfl,rfl⟩
  rcases hx with ⟨lt,rfl,t6⟩|⟨rfl,rfl⟩
  ·rw[if_pos lt]
   exact⟨_,_,(by simp (maxSteps:=9^6) +decide (disch:=first|omega|(simp only[lens]<;>omega)|decide) only [go_sem,Zb,Za,simprocAttr,t6]<;>rfl),rfl,fun m hm=>by simp (disch:=first|omega|(simp only[lens]<;>omega)) only [go_sem]⟩
  ·rw[if_neg (Nat.lt_irrefl _)]
   iterate 3 (first|apply Goes.seq|apply Goes.ret|(apply Goes.ops2 fits Hh Zc; · simp (maxSteps:=9^6) +decide (disch:=first|omega|(simp only[lens]<;>omega)|decide) only [go_sem,Zb,Za,simprocAttr]<;>rfl))
   exact⟨_,_,(by simp (maxSteps:=9^6) +decide (disch:=first|omega|(simp only[lens]<;>omega)|decide) only [go_sem,Zb,Za,simprocAttr]<;>rfl),rfl,fun m hm=>by simp (disch:=first|omega|(simp only[lens]<;>omega)) only [go_sem]⟩
 exact cc.quiet rfl hk
end
end Go.Proofs.YtgikjeaipmeclaaGreatDoor
