/- bits.Set, on the evaluator's level: a block as 2048 bits. -/
import Derived.Test.YtngejdlimkgjfaaGreatDoorCch
import Derived.Test.YtngejdlimkgjfaaGreatDoorEvC
import Derived.Test.YtngejdlimkgjfaaGreatDoorCrcX
set_option linter.unusedSimpArgs false
set_option linter.unusedVariables false
set_option linter.unusedSectionVars false
set_option maxRecDepth 100000
namespace Go.Proofs.YtngejdlimkgjfaaGreatDoor
open Go.Ev
theorem ty93:K.types.get 93=some ti93:=by kernel_rfl
theorem sz93:ti93.size=1:=by rfl
theorem ag93:ti93.agg=false:=by rfl
theorem de93:ti93.desc=(.pointer 47):=by rfl
theorem ze93:ti93.zero=(.c (.pnil)):=by rfl
theorem by93:ti93.bytes=8:=by rfl
attribute [go_sem] ty3 sz3 ag3 de3 ze3 by3 ke3 ty4 sz4 ag4 de4 ze4 by4 ty5 sz5 ag5 de5 ze5 by5 ke5 ty47 sz47 ag47 de47 ze47 by47 eq47 ty93 sz93 ag93 de93 ze93 by93
theorem rs87:Tryz.f87.results.toList=[.tmp 2]:=rfl
theorem rs86:Tryz.f86.results.toList=[.tmp 2]:=rfl
theorem rs38:Tryz.f38.results.toList=[.tmp 4]:=rfl
attribute [go_sem] rs87 rs86 rs38
def b8 (b0 b1 b2 b3 b4 b5 b6 b7:Bool):Nat:=b0.toNat+2 * b1.toNat+4 * b2.toNat+8 * b3.toNat+16 * b4.toNat+32 * b5.toNat+64 * b6.toNat+128 * b7.toNat
theorem Z4h:∀ b0 b1 b2 b3 b4 b5 b6 b7:Bool,b8 b0 b1 b2 b3 b4 b5 b6 b7<256:=by decide +kernel
theorem land8:∀ b0 b1 b2 b3 b4 b5 b6 b7:Bool,∀ j:Fin 8,Nat.land (b8 b0 b1 b2 b3 b4 b5 b6 b7) (2 ^ j.1)=if [b0,b1,b2,b3,b4,b5,b6,b7].getD j.1 false=true then 2 ^ j.1 else 0:=by decide +kernel
theorem lor8:∀ b0 b1 b2 b3 b4 b5 b6 b7:Bool,∀ j:Fin 8,Nat.lor (b8 b0 b1 b2 b3 b4 b5 b6 b7) (2 ^ j.1)=b8 (b0 || decide (j.1=0)) (b1 || decide (j.1=1)) (b2 || decide (j.1=2)) (b3 || decide (j.1=3)) (b4 || decide (j.1=4)) (b5 || decide (j.1=5)) (b6 || decide (j.1=6)) (b7 || decide (j.1=7)):=by decide +kernel
def byB (g:Nat→Bool) (t:Nat):Nat:=b8 (g (8 * t)) (g (8 * t+1)) (g (8 * t+2)) (g (8 * t+3)) (g (8 * t+4)) (g (8 * t+5)) (g (8 * t+6)) (g (8 * t+7))
def Yy (g:Nat→Bool):List C:=(List.range 256).map fun t=>C.int .u8 ((byB g t:Nat):Int)
def Mw (g:Nat→Bool) (i:Nat):Nat→Bool:=fun j=>g j || decide (j=i)
theorem U3 (g:Nat→Bool):(Yy g).length=256:=by simp [Yy]
theorem Zdu (g:Nat→Bool) (t:Nat) (h:t<256):(Yy g)[t]? = some (C.int .u8 ((byB g t:Nat):Int)):=by simp [Yy,h]
theorem sel8 (g:Nat→Bool) (i:Nat):[g (8 * (i / 8)),g (8 * (i / 8)+1),g (8 * (i / 8)+2),g (8 * (i / 8)+3),g (8 * (i / 8)+4),g (8 * (i / 8)+5),g (8 * (i / 8)+6),g (8 * (i / 8)+7)].getD (i % 8) false=g i:=by
 have e:=Nat.div_add_mod i 8
 obtain⟨t,ht⟩:∃ t,i / 8=t:=⟨_,rfl⟩
 rw[ht] at e ⊢
 have hj:i % 8=0∨i % 8=1∨i % 8=2∨i % 8=3∨i % 8=4∨i % 8=5∨i % 8=6∨i % 8=7:=by omega
 rcases hj with h|h|h|h|h|h|h|h<;>rw[h] at e ⊢ <;> rw[←e]<;>rfl
theorem Zca (g:Nat→Bool) (i:Nat):Nat.land (byB g (i / 8)) (2 ^ (i % 8))=if g i=true then 2 ^ (i % 8) else 0:=by
 have:=land8 (g (8 * (i / 8))) (g (8 * (i / 8)+1)) (g (8 * (i / 8)+2)) (g (8 * (i / 8)+3)) (g (8 * (i / 8)+4)) (g (8 * (i / 8)+5)) (g (8 * (i / 8)+6)) (g (8 * (i / 8)+7)) ⟨i % 8,by omega⟩
 simp only[sel8] at this
 exact this
theorem Z1d (g:Nat→Bool) (i:Nat):Nat.lor (byB g (i / 8)) (2 ^ (i % 8))=byB (Mw g i) (i / 8):=by
 have:=lor8 (g (8 * (i / 8))) (g (8 * (i / 8)+1)) (g (8 * (i / 8)+2)) (g (8 * (i / 8)+3)) (g (8 * (i / 8)+4)) (g (8 * (i / 8)+5)) (g (8 * (i / 8)+6)) (g (8 * (i / 8)+7)) ⟨i % 8,by omega⟩
 refine this.trans ?_
 have e:=Nat.div_add_mod i 8
 unfold byB Mw
 have q:∀ k,k<8→decide (i % 8=k)=decide (8 * (i / 8)+k=i):=fun k hk=>by
  rw[decide_eq_decide]
  omega
 have q0:=q 0 (by omega)
 rw[Nat.add_zero] at q0
 simp only[q0,q 1 (by omega),q 2 (by omega),q 3 (by omega),q 4 (by omega),q 5 (by omega),q 6 (by omega),q 7 (by omega)]
theorem Zvs (g:Nat→Bool) (i t:Nat) (h:t≠i / 8):byB (Mw g i) t=byB g t:=by
 unfold byB Mw
 have q:∀ k,k<8→decide (8 * t+k=i)=false:=fun k hk=>decide_eq_false (by omega)
 have q0:=q 0 (by omega)
 rw[Nat.add_zero] at q0
 simp only[q0,q 1 (by omega),q 2 (by omega),q 3 (by omega),q 4 (by omega),q 5 (by omega),q 6 (by omega),q 7 (by omega),Bool.or_false]
theorem Zvl (g:Nat→Bool) (i:Nat) (hi:i<2048):(Yy g).set (i / 8) (.int .u8 ((Nat.lor (byB g (i / 8)) (2 ^ (i % 8)):Nat):Int))=Yy (Mw g i):=by
 refine List.ext_getElem (by simp [Yy]) fun t h1 h2=>?_
 rw[List.getElem_set]
 simp only[Yy,List.getElem_map,List.getElem_range]
 by_cases e:i / 8=t
 ·rw[if_pos e,Z1d,e]
 ·rw[if_neg e,Zvs _ _ _ (fun x=>e x.symm)]
theorem Mt (g:Nat→Bool) (t:Nat):byB g t<256:=Z4h ..
theorem Qo (i:Nat):2 ^ (i % 8)<256:=Nat.lt_of_lt_of_le (Nat.pow_lt_pow_right (by omega) (show i % 8<8 by omega)) (by decide)
theorem lor256 {a b:Nat} (ha:a<256) (hb:b<256):Nat.lor a b<256:=Nat.or_lt_two_pow (n:=8) ha hb
theorem land256 {a b:Nat} (ha:a<256):Nat.land a b<256:=Nat.lt_of_le_of_lt Nat.and_le_left ha
section
variable (Hh:Hearts K Tryz.prog)
include Hh
theorem isOk (h:Go.Ev.H) (i:Nat) (hi:i<2048):Ze K Tryz.prog 87 [.c (.int .i64 i)] h (.w (.c (.bool true))) h:=by
 refine Ze.goes fits Hh (by kernel_rfl) (by kernel_rfl) (by kernel_rfl) (show Tryz.f87.body=some _ from rfl) rfl ?_
 iterate 5 (first|apply Goes.seq|apply Goes.ret|(apply Goes.ops2 fits Hh Zc; · simp (maxSteps:=9^6) +decide (disch:=first|omega|(simp only[lens]<;>omega)|decide) only [go_sem,Zf,Za,simprocAttr]<;>rfl))
 simp (maxSteps:=9^6) +decide (disch:=first|omega|(simp only[lens]<;>omega)|decide) only [go_sem,Zf,Za,simprocAttr]<;>rfl
theorem Zlh (h:Go.Ev.H) (i:Nat):Ze K Tryz.prog 86 [.c (.int .i64 i)] h (.w (.c (.int .u8 ((2 ^ (i % 8):Nat):Int)))) h:=by
 have r1:Xt .i64 (i:Int) 8=some (.int .i64 ((i % 8:Nat):Int)):=Nf (b:=8) (by omega)
 have s1:Qa .u8 1 ((i % 8:Nat):Int)=some (.int .u8 ((2 ^ (i % 8):Nat):Int)):=by
  have h8:=Qo i
  unfold Qa
  rw[decide_eq_false (by omega),cond_false]
  have e:min ((i % 8:Nat):Int).toNat IntKind.u8.bits=i % 8:=by
   show min ((i % 8:Nat):Int).toNat 8=i % 8
   omega
  rw[e,Int.one_mul,Zkp ⟨Int.pow_nonneg (by omega),by exact_mod_cast h8⟩]
  congr 2
 refine Ze.goes fits Hh (by kernel_rfl) (by kernel_rfl) (by kernel_rfl) (show Tryz.f86.body=some _ from rfl) rfl ?_
 iterate 5 (first|apply Goes.seq|apply Goes.ret|(apply Goes.ops2 fits Hh Zc; · simp (maxSteps:=9^6) +decide (disch:=first|omega|(simp only[lens]<;>omega)|decide) only [go_sem,Zf,Za,simprocAttr,r1,s1]<;>rfl))
 simp (maxSteps:=9^6) +decide (disch:=first|omega|(simp only[lens]<;>omega)|decide) only [go_sem,Zf,Za,simprocAttr,r1,s1]<;>rfl
theorem Zxy (h:Go.Ev.H) (b i:Nat) (g:Nat→Bool) (hi:i<2048) (hg:g i=false) (hb:h.get b=some (.row 256 [Yy g] false)):Ze K Tryz.prog 38 [.c (.ptr b 0),.c (.int .i64 i)] h (.w (.c (.bool true))) (h.put b (.row 256 [Yy (Mw g i)] false)):=by
 have c1:=isOk Hh h i hi
 have c2:=Zlh Hh h i
 have q1:M0 .i64 (i:Int) 8=some (.int .i64 ((i / 8:Nat):Int)):=L6 (b:=8) (by omega) (by omega)
 have rd:read1 256 [Yy g] (i / 8)=some (.int .u8 ((byB g (i / 8):Nat):Int)):=by
  unfold read1
  rw[Nat.div_eq_of_lt (by omega),Nat.mod_eq_of_lt (by omega),List.getElem?_cons_zero]
  exact Zdu g _ (by omega)
 have wr:Z5 256 [Yy g] (i / 8) [.int .u8 ((Nat.lor (byB g (i / 8)) (2 ^ (i % 8)):Nat):Int)]=some [Yy (Mw g i)]:=by
  simp only[Z5]
  rw[Nat.div_eq_of_lt (by omega),Nat.mod_eq_of_lt (by omega),List.getElem?_cons_zero]
  simp only[U3]
  rw[Zez (by omega),cond_true,Zvl g i hi]
  rfl
 have l1:Bh .u8 Nat.land ((byB g (i / 8):Nat):Int) ((2 ^ (i % 8):Nat):Int)=.int .u8 ((0:Nat):Int):=by
  rw[Zkf (Mt _ _) (Qo _) (land256 (Mt _ _)),Zca,hg]
  rfl
 have l2:Bh .u8 Nat.lor ((byB g (i / 8):Nat):Int) ((2 ^ (i % 8):Nat):Int)=.int .u8 ((Nat.lor (byB g (i / 8)) (2 ^ (i % 8)):Nat):Int):=Zkf (Mt _ _) (Qo _) (lor256 (Mt _ _) (Qo _))
 refine Ze.goes fits Hh (by kernel_rfl) (by kernel_rfl) (by kernel_rfl) (show Tryz.f38.body=some _ from rfl) rfl ?_
 iterate 4 (first|apply Goes.seq|(apply Goes.ops2 fits Hh Zc; · simp (maxSteps:=9^6) +decide (disch:=first|omega|(simp only[lens]<;>omega)|decide) only [go_sem,Zf,Za,simprocAttr,q1,rd,wr,l1,l2,hb]<;>rfl))
 iterate 4 (first|apply Goes.seq|apply Goes.skip|(apply Goes.Zr; · simp (maxSteps:=9^6) +decide (disch:=first|omega|(simp only[lens]<;>omega)|decide) only [go_sem,Zf,Za,simprocAttr,Z7,q1,rd,wr,l1,l2,hb]<;>rfl)|(apply Goes.drawn2 fits Hh (Zy (Zy Zc c1) c2) (by kernel_rfl); · simp (maxSteps:=9^6) +decide (disch:=first|omega|(simp only[lens]<;>omega)|decide) only [go_sem,Zf,Za,simprocAttr,Js,Y2,Jd,Jo,Yv,Jp,Jf,Ye,Ja,Jr,Ux,Jg,Ya,Ym,Yh,Yg,Je,Yt,Y0,Yd,Yu,Jb,Oy,U8,Oj,Ee,Ep,Ue,Ug,Jn,Om,Uj,Ur,Jq,Y1,Uo,looks,O5,Op.operands,Call.operands,kd,Ud,List.filterMap_cons,List.filterMap_nil,List.append_nil,List.nil_append,List.cons_append,Ji,stable,Jl,J4,Jt,waits,Yr,List.all_cons,List.all_nil,List.any_cons,List.any_nil,Region.binds,Bool.or_true,Bool.true_or,Bool.and_true,Bool.true_and,Bool.or_false,Bool.false_or,Bool.and_self,Bool.or_self,Jc,Nat.le_refl,Nat.le_add_right,List.map_cons,Array.toList_append,Z7,q1,rd,wr,l1,l2,hb]<;>rfl))
 iterate 4 (first|apply Goes.seq|apply Goes.ret|(apply Goes.ops2 fits Hh (Zy Zc c2); · simp (maxSteps:=9^6) +decide (disch:=first|omega|(simp only[lens]<;>omega)|decide) only [go_sem,Zf,Za,simprocAttr,Z7,q1,rd,wr,l1,l2,hb]<;>rfl)|(apply Goes.drawn2 fits Hh (Zy Zc c2) (by kernel_rfl); · simp (maxSteps:=9^6) +decide (disch:=first|omega|(simp only[lens]<;>omega)|decide) only [go_sem,Zf,Za,simprocAttr,Js,Y2,Jd,Jo,Yv,Jp,Jf,Ye,Ja,Jr,Ux,Jg,Ya,Ym,Yh,Yg,Je,Yt,Y0,Yd,Yu,Jb,Oy,U8,Oj,Ee,Ep,Ue,Ug,Jn,Om,Uj,Ur,Jq,Y1,Uo,looks,O5,Op.operands,Call.operands,kd,Ud,List.filterMap_cons,List.filterMap_nil,List.append_nil,List.nil_append,List.cons_append,Ji,stable,Jl,J4,Jt,waits,Yr,List.all_cons,List.all_nil,List.any_cons,List.any_nil,Region.binds,Bool.or_true,Bool.true_or,Bool.and_true,Bool.true_and,Bool.or_false,Bool.false_or,Bool.and_self,Bool.or_self,Jc,Nat.le_refl,Nat.le_add_right,List.map_cons,Array.toList_append,Z7,q1,rd,wr,l1,l2,hb]<;>rfl))
 simp (maxSteps:=9^6) +decide (disch:=first|omega|(simp only[lens]<;>omega)|decide) only [go_sem,Zf,Za,simprocAttr,q1,rd,wr,l1,l2,hb]<;>rfl
end
end Go.Proofs.YtngejdlimkgjfaaGreatDoor
set_option maxRecDepth 100000
namespace Go.Proofs.YtngejdlimkgjfaaGreatDoor
open Go.Ev
noncomputable def q59 (p:List Nat):Code:=piece p (Yc Tryz.f59)
theorem rs59:Tryz.f59.results.toList=[.cell 4 47]:=rfl
attribute [go_sem] rs59
def Zdw (i:Nat):Nat→Bool:=fun j=>decide (j<i)
def F5 (u s i:Nat):Nat→Bool:=fun j=>decide (j<u) || (decide (s≤j)&&decide (j<i))
theorem Zw9 (i:Nat):Mw (Zdw i) i=Zdw (i+1):=by
 funext j
 unfold Mw Zdw
 rw[←Bool.decide_or,decide_eq_decide]
 omega
theorem Zwr (u s i:Nat) (h:s≤i):Mw (F5 u s i) i=F5 u s (i+1):=by
 funext j
 unfold Mw F5
 rw[←Bool.decide_and,←Bool.decide_and,←Bool.decide_or,←Bool.decide_or,←Bool.decide_or,decide_eq_decide]
 omega
theorem Zpn (u s:Nat):F5 u s s=Zdw u:=by
 funext j
 unfold F5 Zdw
 rw[←Bool.decide_and,←Bool.decide_or,decide_eq_decide]
 omega
theorem Zu3:List.replicate 256 (C.int .u8 0)=Yy (Zdw 0):=by kernel_rfl
def bmB (u s:Nat):List C:=Yy (F5 u s 2048)
section
variable (Hh:Hearts K Tryz.prog)
include Hh
theorem bm1 (p u:Nat) (hu:u≤2048):∀ (k i:Nat) (ts:Zx) (h:Go.Ev.H),i+k=u→h.get p=some (.row 256 [Yy (Zdw i)] false)→Zq ts 5=.w (.c (.ptr p 0))→Zq ts 8=.w (.c (.int .i64 u))→Zq ts 9=.w (.c (.int .i64 i)) →
  Goes K Tryz.prog 23 none (q59 [1,1,0,1,2]) [] ts h fun x ds' ts' h'=>x=.exit 0∧ds'=[]∧h'.next=h.next∧h'.get p=some (.row 256 [Yy (Zdw u)] false)∧(∀ m,m≠p→h'.get m=h.get m)∧∀ s,s≤5→Zq ts' s=Zq ts s:=by
 intro k
 induction k with
 | zero =>
  intro i ts h hi hp h5 h8 h9
  obtain rfl:i=u:=by omega
  iterate 6 (first|apply Goes.seq|apply Goes.exit|apply Goes.loop|((first|apply Goes.Zr|apply Goes.ops2 fits Hh Zc); · simp (maxSteps:=9^6) +decide (disch:=first|omega|(simp only[lens]<;>omega)|decide) only [go_sem,Zf,Za,simprocAttr,h8,h9]<;>rfl))
  refine⟨rfl,rfl,rfl,hp,fun _ _=>rfl,fun s hs=>?_⟩
  simp (decide:=true) only [Uv hs]
 | succ k ih =>
  intro i ts h hi hp h5 h8 h9
  have c1:=Zxy Hh h p i (Zdw i) (by omega) (by simp [Zdw]) hp
  rw[Zw9] at c1
  iterate 10 (first|apply Goes.seq|apply Goes.skip|apply Goes.block|apply Goes.loop|((first|apply Goes.Zr|apply Goes.ops2 fits Hh Zc); · simp (maxSteps:=9^6) +decide (disch:=first|omega|(simp only[lens]<;>omega)|decide) only [go_sem,Zf,Za,simprocAttr,h5,h8,h9]<;>rfl))
  iterate 2 ((apply Goes.ops2 fits Hh (Zy Zc c1); · simp (maxSteps:=9^6) +decide (disch:=first|omega|(simp only[lens]<;>omega)|decide) only [go_sem,Zf,Za,simprocAttr,Z7,h5,h8,h9]<;>rfl))
  show Goes K Tryz.prog 23 none (q59 [1,1,0,1,2]) _ _ _ _
  refine (ih (i+1) _ _ (by omega) (Z9 ..) ?_ ?_ ?_).mono ?_
  ·simp (decide:=true) only [Zn,reduceIte,h5]
  ·simp (decide:=true) only [Zn,reduceIte,h8]
  ·simp (decide:=true) only [Zn,reduceIte]<;>rfl
  ·rintro x ds' ts' h' ⟨e1,e2,e3,e4,e5,e6⟩
   refine⟨e1,e2,e3,e4,fun m hm=>(e5 m hm).trans (Zp hm),fun s hs=>(e6 s hs).trans ?_⟩
   simp (decide:=true) only [Uv hs]
theorem bm2 (p u z:Nat) (hz:z≤2048) (huz:u≤z):∀ (k i:Nat) (ts:Zx) (h:Go.Ev.H),i+k=2048→z≤i→h.get p=some (.row 256 [Yy (F5 u z i)] false)→Zq ts 5=.w (.c (.ptr p 0))→Zq ts 7=.w (.c (.int .i64 i)) →
  Goes K Tryz.prog 23 none (q59 [1,1,1,0,1,2]) [] ts h fun x ds' ts' h'=>x=.exit 2∧ds'=[]∧h'.next=h.next∧h'.get p=some (.row 256 [Yy (F5 u z 2048)] false)∧(∀ m,m≠p→h'.get m=h.get m)∧∀ s,s≤5→Zq ts' s=Zq ts s:=by
 intro k
 induction k with
 | zero =>
  intro i ts h hi hzi hp h5 h7
  obtain rfl:i=2048:=by omega
  iterate 6 (first|apply Goes.seq|apply Goes.exit|apply Goes.loop|((first|apply Goes.Zr|apply Goes.ops2 fits Hh Zc); · simp (maxSteps:=9^6) +decide (disch:=first|omega|(simp only[lens]<;>omega)|decide) only [go_sem,Zf,Za,simprocAttr,h7]<;>rfl))
  refine⟨rfl,rfl,rfl,hp,fun _ _=>rfl,fun s hs=>?_⟩
  simp (decide:=true) only [Uv hs]
 | succ k ih =>
  intro i ts h hi hzi hp h5 h7
  have c1:=Zxy Hh h p i (F5 u z i) (by omega) (by simp [F5]; omega) hp
  rw[Zwr _ _ _ hzi] at c1
  iterate 8 (first|apply Goes.seq|apply Goes.skip|apply Goes.block|apply Goes.loop|((first|apply Goes.Zr|apply Goes.ops2 fits Hh Zc); · simp (maxSteps:=9^6) +decide (disch:=first|omega|(simp only[lens]<;>omega)|decide) only [go_sem,Zf,Za,simprocAttr,h5,h7]<;>rfl))
  iterate 2 ((apply Goes.ops2 fits Hh (Zy Zc c1); · simp (maxSteps:=9^6) +decide (disch:=first|omega|(simp only[lens]<;>omega)|decide) only [go_sem,Zf,Za,simprocAttr,Z7,h5,h7]<;>rfl))
  show Goes K Tryz.prog 23 none (q59 [1,1,1,0,1,2]) _ _ _ _
  refine (ih (i+1) _ _ (by omega) (by omega) (Z9 ..) ?_ ?_).mono ?_
  ·simp (decide:=true) only [Zn,reduceIte,h5]
  ·simp (decide:=true) only [Zn,reduceIte]<;>rfl
  ·rintro x ds' ts' h' ⟨e1,e2,e3,e4,e5,e6⟩
   refine⟨e1,e2,e3,e4,fun m hm=>(e5 m hm).trans (Zp hm),fun s hs=>(e6 s hs).trans ?_⟩
   simp (decide:=true) only [Uv hs]
theorem Zo3 (h:Go.Ev.H) (u z:Nat) (huz:u≤z) (hz:z≤2048):Ze K Tryz.prog 59 [.c (.int .i64 u),.c (.int .i64 z)] h (.w (.g (bmB u z))) h:=by
 obtain⟨v,h',c,rfl,hk⟩:∃ v h',Ze K Tryz.prog 59 [.c (.int .i64 u),.c (.int .i64 z)] h v h'∧v=(.w (.g (bmB u z)))∧∀ m,m<h.next→h'.get m=h.get m:=by
  have z0:=Zu3
  refine Ze.Z8 fits Hh (by kernel_rfl) (by kernel_rfl) (by kernel_rfl) (show Tryz.f59.body=some _ from rfl) rfl ?_
  iterate 8 (first|apply Goes.seq|apply Goes.block|(apply Goes.ops2 fits Hh Zc; · simp (maxSteps:=9^6) +decide (disch:=first|omega|(simp only[lens]<;>omega)|decide) only [go_sem,Zf,Za,simprocAttr,z0]<;>rfl))
  refine (bm1 Hh (h.next+1) u (by omega) u 0 _ _ (by omega) ?_ ?_ ?_ ?_).mono ?_
  ·exact Bo _ _
  ·simp (decide:=true) only [Zn,reduceIte]
  ·simp (decide:=true) only [Zn,reduceIte]<;>rfl
  ·simp (decide:=true) only [Zn,reduceIte]<;>rfl
  rintro x ds' ts' h' ⟨rfl,rfl,n1,g1,k1,t1⟩
  have f1:=t1 1 (by decide)
  have f4:=t1 4 (by decide)
  have f5:=t1 5 (by decide)
  simp (maxSteps:=9^6) +decide (disch:=first|omega|(simp only[lens]<;>omega)|decide) only [go_sem,Zf,Za,simprocAttr] at f1 f4 f5
  iterate 2 (apply Goes.seq)
  skip
  iterate 2 (first|apply Goes.block|(apply Goes.ops2 fits Hh Zc; · simp (maxSteps:=9^6) +decide (disch:=first|omega|(simp only[lens]<;>omega)|decide) only [go_sem,Zf,Za,simprocAttr,z0]<;>rfl))
  refine (bm2 Hh (h.next+1) u z hz huz (2048 - z) z _ _ (by omega) (by omega) ?_ ?_ ?_).mono ?_
  ·rw[Zpn]; exact g1
  ·simp (decide:=true) only [Zn,reduceIte,f5]
  ·simp (decide:=true) only [Zn,reduceIte,f1]
  rintro x ds' ts2 h2 ⟨rfl,rfl,n2,g2,k2,t2⟩
  have y4:=t2 4 (by decide)
  have y5:=t2 5 (by decide)
  simp (maxSteps:=9^6) +decide (disch:=first|omega|(simp only[lens]<;>omega)|decide) only [go_sem,Zf,Za,simprocAttr,f4,f5] at y4 y5
  have a2:h2.get h.next=some (.row 256 [Yy (Zdw 0)] false):=by rw[k2 _ (by omega),k1 _ (by omega)]; simp (maxSteps:=9^6) +decide (disch:=first|omega|(simp only[lens]<;>omega)|decide) only [go_sem,Zf,Za,simprocAttr]
  have r2:Zf 256 [Yy (F5 u z 2048)] 0 256=some (Yy (F5 u z 2048)):=by
   have:=X3 (l:=Yy (F5 u z 2048)) (by rw[U3]; omega)
   rwa [U3] at this
  have r3:Zf 256 [Yy (F5 u z 2048)] 0 256=some (Yy (F5 u z 2048)):=r2
  have w2:Z5 256 [Yy (Zdw 0)] 0 (Yy (F5 u z 2048))=some [Yy (F5 u z 2048)]:=by
   have:=V8 (l:=Yy (Zdw 0)) (l':=Yy (F5 u z 2048)) (by rw[U3]; omega) (by rw[U3,U3])
   rwa [U3] at this
  iterate 3 (first|apply Goes.seq|apply Goes.ret|(apply Goes.ops2 fits Hh Zc; · simp (maxSteps:=9^6) +decide (disch:=first|omega|(simp only[lens]<;>omega)|decide) only [go_sem,Zf,Za,simprocAttr,y4,y5,g2,a2,r2,w2,U3,z0]<;>rfl))
  refine⟨_,_,(by simp (maxSteps:=9^6) +decide (disch:=first|omega|(simp only[lens]<;>omega)|decide) only [go_sem,Zf,Za,simprocAttr,y4,y5,g2,r2,U3]<;>rfl),rfl,fun m hm=>?_⟩
  simp (maxSteps:=9^6) +decide (disch:=first|omega|(simp only[lens]<;>omega)|decide) only [go_sem,Zf,Za,simprocAttr,k2,k1]
 exact Ze.quiet c (by simp [V.flat,W.flat,bmB,Yy,C.flat]) hk
end
end Go.Proofs.YtngejdlimkgjfaaGreatDoor
set_option maxRecDepth 100000
namespace Go.Proofs.YtngejdlimkgjfaaGreatDoor
open Go.Ev
def xBm (args:List W) (h:Go.Ev.H):Option (V × Go.Ev.H):=match args with
 | [.c (.int .i64 (.ofNat u)),.c (.int .i64 (.ofNat z))]=>bif Nat.ble u z&&Nat.ble z 2048 then some (.w (.g (bmB u z)),h) else none
 | _=>none
noncomputable def x3:Kn:=fun f args h=>bif Nat.beq f 59 then xBm args h else bif Nat.beq f 165 then Z2y args h else bif Nat.beq f 93 then Zwb args h else none
section
variable (Hh:Hearts K Tryz.prog)
include Hh
theorem Z21 {args:List W} {h h':Go.Ev.H} {v:V} (e:xBm args h=some (v,h')):Ze K Tryz.prog 59 args h v h':=by
 unfold xBm at e
 split at e
 ·rename_i u z
  cases hb:(Nat.ble u z&&Nat.ble z 2048) with
  | false=>rw[hb] at e; cases e
  | true =>
   rw[hb] at e
   cases e
   simp only[Bool.and_eq_true] at hb
   exact Zo3 Hh h u z (Nat.le_of_ble_eq_true hb.1) (Nat.le_of_ble_eq_true hb.2)
 ·cases e
theorem Ztg:Zig K Tryz.prog x3:=by
 intro f args h v h' e
 unfold x3 at e
 cases h1:Nat.beq f 59 with
 | true =>
  rw[h1] at e
  obtain rfl:=Nat.eq_of_beq_eq_true h1
  exact Z21 Hh e
 | false =>
  rw[h1] at e
  cases h2:Nat.beq f 165 with
  | true =>
   rw[h2] at e
   obtain rfl:=Nat.eq_of_beq_eq_true h2
   exact Z0y Hh e
  | false =>
   rw[h2] at e
   cases h3:Nat.beq f 93 with
   | true =>
    rw[h3] at e
    obtain rfl:=Nat.eq_of_beq_eq_true h3
    exact Zxt Hh e
   | false=>rw[h3] at e; cases e
end
end Go.Proofs.YtngejdlimkgjfaaGreatDoor
