/- mkfs.descs. -/
import Derived.Test.YtmdibcklpmeleaaGreatDoorSup2
import Derived.Test.YtmdibcklpmeleaaGreatDoorCch
import Derived.Test.YtmdibcklpmeleaaGreatDoorEvC
import Derived.Test.YtmdibcklpmeleaaGreatDoorPge
set_option linter.unusedSimpArgs false
set_option linter.unusedVariables false
set_option linter.unusedSectionVars false
set_option maxRecDepth 100000
set_option maxHeartbeats 10000000
namespace Go.Proofs.YtmdibcklpmeleaaGreatDoor
open Go.Ev
theorem rs53:Tryz.f53.results.toList=[.tmp 2]:=rfl
attribute [go_sem] rs53
def Zag (a b c:Nat):List Zba:=(b - 2 - c / 4,c - 1,1) :: List.replicate (a - 1) (b - 2 - c / 4,c,0)
noncomputable def Zyx:Kn1:=fun args h=>match args with
 | [.g [.int .i64 a,.int .i64 b,.int .i64 c,.int .i64 d]]=>Zbc a b c d fun a b c _=>some (.w (.c (.slice h.next 0 a 3)),h.new (.row 3 ((Zag a b c).map Zh5) false))
 | _=>none
attribute [go_sem] Zyx
theorem wc31 (x y z c:C) (L:List (List C)):Zx 3 ([x,y,z] :: L) 1 [c]=some ([x,c,z] :: L):=rfl
theorem wc32 (x y z c:C) (L:List (List C)):Zx 3 ([x,y,z] :: L) 2 [c]=some ([x,y,c] :: L):=rfl
section
variable (Hh:Hearts K Tryz.prog)
include Hh
theorem Z1p {args:List W} {h h':Go.Ev.H} {v:V} (e:Zyx args h=some (v,h')):Zd K Tryz.prog 53 args h v h':=by
 unfold Zyx at e
 split at e
 ·obtain⟨a,b,c,d,rfl,rfl,rfl,rfl,f,e⟩:=Gq e
  cases e
  obtain⟨g1,g2,g3,g4,g5,g6,g7,g8,g9,g10,g11⟩:=Yn f
  obtain⟨q,hq⟩:∃ q,b - 2 - c / 4=q:=⟨_,rfl⟩
  have ec:(c:Int) - 1=((c - 1:Nat):Int):=by omega
  obtain⟨v,h',cc,n,rfl,n1,n2,n3,hk⟩:∃ v h',Zd K Tryz.prog 53 [.g [.int .i64 (a:Int),.int .i64 (b:Int),.int .i64 (c:Int),.int .i64 (d:Int)]] h v h'∧∃ n,v=.w (.c (.slice n 0 a 3))∧h.next≤n∧n<h'.next∧h'.get n=some (.row 3 ((Zag a b c).map Zh5) false)∧∀ m,m<h.next→h'.get m=h.get m:=by
   unfold Zag
   rw[hq]
   obtain rfl|rfl|rfl|rfl:a=1∨a=2∨a=3∨a=4:=by omega
   all_goals
    refine Zd.Ya fits Hh (by kernel_rfl) (by kernel_rfl) (by kernel_rfl) (show Tryz.f53.body=some _ from rfl) rfl ?_
    repeat (first
     | refine Goes.seq ?_
     | refine Goes.block ?_
     | refine Goes.loop ?_
     | refine Goes.skip ?_
     | refine Goes.exit ?_
     | refine Goes.ret ?_
     | refine Goes.Z4 (by simp (maxSteps:=9^6) +decide (disch:=first|omega|(simp only[lens]<;>omega)|decide) only [go_sem,Za,simprocAttr,f,hq,ec,rd4,rd30,rd31,rd32,rd33,wr30,wr31,wr32,wr33,wc31,wc32,List.replicate_succ,List.replicate_zero,Zn,Zm,Yz,Yr,Yb,read1]<;>rfl) ?_
     | refine Goes.ops2 fits Hh (Zf Zb (fun _ _ _ _=>Zgo Hh)) (by simp (maxSteps:=9^6) +decide (disch:=first|omega|(simp only[lens]<;>omega)|decide) only [go_sem,Za,simprocAttr,f,hq,ec,rd4,rd30,rd31,rd32,rd33,wr30,wr31,wr32,wr33,wc31,wc32,List.replicate_succ,List.replicate_zero,Zn,Zm,Yz,Yr,Yb,read1]; rfl) ?_
     | refine Goes.drawn2 fits Hh (Zf Zb (fun _ _ _ _=>Zgo Hh)) (by kernel_rfl) (by simp (maxSteps:=9^6) +decide (disch:=first|omega|(simp only[lens]<;>omega)|decide) only [go_sem,Za,simprocAttr,U2,Je,Ju,Ux,Y9,Uv,Jp,Yw,Jt,Uy,Gg,Jy,Yq,Y1,Yu,Yv,J2,Jb,Jf,Yx,Y8,Jz,Bh,O8,Gu,Rl,R8,Ot,Oj,Uh,G7,Oq,Oc,Uw,Jd,Uo,looks,En,Op.operands,Call.operands,kd,Ox,List.filterMap_cons,List.filterMap_nil,List.append_nil,List.nil_append,List.cons_append,Jk,stable,J5,Oa,Uu,waits,Ja,List.all_cons,List.all_nil,List.any_cons,List.any_nil,Region.binds,Bool.or_true,Bool.true_or,Bool.and_true,Bool.true_and,Bool.or_false,Bool.false_or,Bool.and_self,Bool.or_self,Jq,Nat.le_refl,Nat.le_add_right,List.map_cons,Array.toList_append,f,hq,ec,rd4,rd30,rd31,rd32,rd33,wr30,wr31,wr32,wr33,wc31,wc32,List.replicate_succ,List.replicate_zero,Zn,Zm,Yz,Yr,Yb,read1]; rfl) ?_)
    exact⟨_,_,(by simp (maxSteps:=9^6) +decide (disch:=first|omega|(simp only[lens]<;>omega)|decide) only [go_sem,Za,simprocAttr]<;>rfl),_,rfl,(by first|omega|(simp only[H.Ze,H.Zg]<;>omega)),(by first|omega|(simp only[H.Ze,H.Zg]<;>omega)),by simp (maxSteps:=9^6) +decide (disch:=first|omega|(simp only[lens]<;>omega)|decide) only [go_sem,Za,simprocAttr,Zh5,List.map_cons,List.map_nil,List.replicate_succ,List.replicate_zero]<;>rfl,fun m hm=>by (first|(simp (discharger:=omega) only [H.get_put,H.Zh,H.Zk,H.Ze,H.Zg,H.Zj,if_neg]; done)|(simp only[H.get_put,H.Zh,H.Zk,H.Ze,H.Zg,H.Zj]; (repeat' split)<;>first|rfl|(exfalso; omega)|omega))⟩
  exact Zd.row1 cc n1 n3 (Zo1 _) n2 hk
 ·cases e
end
end Go.Proofs.YtmdibcklpmeleaaGreatDoor
set_option maxRecDepth 100000
namespace Go.Proofs.YtmdibcklpmeleaaGreatDoor
open Go.Ev
theorem ty95:K.types.get 95=some ti95:=by kernel_rfl
theorem sz95:ti95.size=1:=by rfl
theorem ag95:ti95.agg=false:=by rfl
theorem de95:ti95.desc=(.pointer 78):=by rfl
theorem ze95:ti95.zero=(.c (.pnil)):=by rfl
theorem by95:ti95.bytes=8:=by rfl
attribute [go_sem] ty3 sz3 ag3 de3 ze3 by3 ke3 ty4 sz4 ag4 de4 ze4 by4 ty5 sz5 ag5 de5 ze5 by5 ke5 ty78 sz78 ag78 de78 ze78 by78 eq78 ty95 sz95 ag95 de95 ze95 by95
noncomputable def q41 (p:List Nat):Code:=piece p (Z5 Tryz.f41)
theorem Yh8:q41 []=.seq (q41 [0]) (q41 [1]):=by kernel_rfl
theorem q41_0:q41 [0]=.region 0 (Zt (q41 [0])) false:=by kernel_rfl
theorem q41_1:q41 [1]=.seq (q41 [1,0]) (q41 [1,1]):=by kernel_rfl
theorem Yfz:q41 [1,0]=.seq (q41 [1,0,0]) (q41 [1,0,1]):=by kernel_rfl
theorem Ycm:q41 [1,0,0]=.region 1 (Zt (q41 [1,0,0])) true:=by kernel_rfl
theorem Ybc:q41 [1,0,1]=.cond (.tmp 23) (q41 [1,0,1,3]) (q41 [1,0,1,4]):=by kernel_rfl
theorem Z7b:q41 [1,0,1,4]=.skip:=by kernel_rfl
theorem Ydv:q41 [1,1]=.seq (q41 [1,1,0]) (q41 [1,1,1]):=by kernel_rfl
theorem Z9k:q41 [1,1,0]=.region 3 (Zt (q41 [1,1,0])) true:=by kernel_rfl
theorem Z9i:q41 [1,1,1]=.seq (q41 [1,1,1,0]) (q41 [1,1,1,1]):=by kernel_rfl
theorem Z83:q41 [1,1,1,0]=.region 4 (Zt (q41 [1,1,1,0])) false:=by kernel_rfl
theorem Z7h:q41 [1,1,1,1]=.ret:=by kernel_rfl
noncomputable def q88 (p:List Nat):Code:=piece p (Z5 Tryz.f88)
theorem Yh6:q88 []=.seq (q88 [0]) (q88 [1]):=by kernel_rfl
theorem q88_0:q88 [0]=.region 0 (Zt (q88 [0])) false:=by kernel_rfl
theorem q88_1:q88 [1]=.seq (q88 [1,0]) (q88 [1,1]):=by kernel_rfl
theorem Yfj:q88 [1,0]=.region 1 (Zt (q88 [1,0])) false:=by kernel_rfl
theorem Ydu:q88 [1,1]=.ret:=by kernel_rfl
noncomputable def q89 (p:List Nat):Code:=piece p (Z5 Tryz.f89)
theorem Yh9:q89 []=.seq (q89 [0]) (q89 [1]):=by kernel_rfl
theorem q89_0:q89 [0]=.region 0 (Zt (q89 [0])) false:=by kernel_rfl
theorem q89_1:q89 [1]=.seq (q89 [1,0]) (q89 [1,1]):=by kernel_rfl
theorem Yfe:q89 [1,0]=.region 1 (Zt (q89 [1,0])) false:=by kernel_rfl
theorem Yd5:q89 [1,1]=.ret:=by kernel_rfl
theorem rs89:Tryz.f89.results.toList=[.tmp 2]:=rfl
theorem rs88:Tryz.f88.results.toList=[.tmp 2]:=rfl
theorem rs41:Tryz.f41.results.toList=[.tmp 4]:=rfl
attribute [go_sem] rs89 rs88 rs41
def b8 (b0 b1 b2 b3 b4 b5 b6 b7:Bool):Nat:=b0.toNat+2 * b1.toNat+4 * b2.toNat+8 * b3.toNat+16 * b4.toNat+32 * b5.toNat+64 * b6.toNat+128 * b7.toNat
theorem Yhm:∀ b0 b1 b2 b3 b4 b5 b6 b7:Bool,b8 b0 b1 b2 b3 b4 b5 b6 b7<256:=by decide +kernel
theorem land8:∀ b0 b1 b2 b3 b4 b5 b6 b7:Bool,∀ j:Fin 8,Nat.land (b8 b0 b1 b2 b3 b4 b5 b6 b7) (2 ^ j.1)=if [b0,b1,b2,b3,b4,b5,b6,b7].getD j.1 false=true then 2 ^ j.1 else 0:=by decide +kernel
theorem lor8:∀ b0 b1 b2 b3 b4 b5 b6 b7:Bool,∀ j:Fin 8,Nat.lor (b8 b0 b1 b2 b3 b4 b5 b6 b7) (2 ^ j.1)=b8 (b0 || decide (j.1=0)) (b1 || decide (j.1=1)) (b2 || decide (j.1=2)) (b3 || decide (j.1=3)) (b4 || decide (j.1=4)) (b5 || decide (j.1=5)) (b6 || decide (j.1=6)) (b7 || decide (j.1=7)):=by decide +kernel
def byB (g:Nat→Bool) (t:Nat):Nat:=b8 (g (8 * t)) (g (8 * t+1)) (g (8 * t+2)) (g (8 * t+3)) (g (8 * t+4)) (g (8 * t+5)) (g (8 * t+6)) (g (8 * t+7))
def Og (g:Nat→Bool):List C:=(List.range 256).map fun t=>C.int .u8 ((byB g t:Nat):Int)
def Zj8 (g:Nat→Bool) (i:Nat):Nat→Bool:=fun j=>g j || decide (j=i)
theorem Bq (g:Nat→Bool):(Og g).length=256:=by simp [Og]
theorem Z1r (g:Nat→Bool) (t:Nat) (h:t<256):(Og g)[t]? = some (C.int .u8 ((byB g t:Nat):Int)):=by simp [Og,h]
theorem sel8 (g:Nat→Bool) (i:Nat):[g (8 * (i / 8)),g (8 * (i / 8)+1),g (8 * (i / 8)+2),g (8 * (i / 8)+3),g (8 * (i / 8)+4),g (8 * (i / 8)+5),g (8 * (i / 8)+6),g (8 * (i / 8)+7)].getD (i % 8) false=g i:=by
 have e:=Nat.div_add_mod i 8
 obtain⟨t,ht⟩:∃ t,i / 8=t:=⟨_,rfl⟩
 rw[ht] at e ⊢
 have hj:i % 8=0∨i % 8=1∨i % 8=2∨i % 8=3∨i % 8=4∨i % 8=5∨i % 8=6∨i % 8=7:=by omega
 rcases hj with h|h|h|h|h|h|h|h<;>rw[h] at e ⊢ <;> rw[←e]<;>rfl
theorem Z6a (g:Nat→Bool) (i:Nat):Nat.land (byB g (i / 8)) (2 ^ (i % 8))=if g i=true then 2 ^ (i % 8) else 0:=by
 have:=land8 (g (8 * (i / 8))) (g (8 * (i / 8)+1)) (g (8 * (i / 8)+2)) (g (8 * (i / 8)+3)) (g (8 * (i / 8)+4)) (g (8 * (i / 8)+5)) (g (8 * (i / 8)+6)) (g (8 * (i / 8)+7)) ⟨i % 8,by omega⟩
 simp only[sel8] at this
 exact this
theorem Yca (g:Nat→Bool) (i:Nat):Nat.lor (byB g (i / 8)) (2 ^ (i % 8))=byB (Zj8 g i) (i / 8):=by
 have:=lor8 (g (8 * (i / 8))) (g (8 * (i / 8)+1)) (g (8 * (i / 8)+2)) (g (8 * (i / 8)+3)) (g (8 * (i / 8)+4)) (g (8 * (i / 8)+5)) (g (8 * (i / 8)+6)) (g (8 * (i / 8)+7)) ⟨i % 8,by omega⟩
 refine this.trans ?_
 have e:=Nat.div_add_mod i 8
 unfold byB Zj8
 have q:∀ k,k<8→decide (i % 8=k)=decide (8 * (i / 8)+k=i):=fun k hk=>by
  rw[decide_eq_decide]
  omega
 have q0:=q 0 (by omega)
 rw[Nat.add_zero] at q0
 simp only[q0,q 1 (by omega),q 2 (by omega),q 3 (by omega),q 4 (by omega),q 5 (by omega),q 6 (by omega),q 7 (by omega)]
theorem Z30 (g:Nat→Bool) (i t:Nat) (h:t≠i / 8):byB (Zj8 g i) t=byB g t:=by
 unfold byB Zj8
 have q:∀ k,k<8→decide (8 * t+k=i)=false:=fun k hk=>decide_eq_false (by omega)
 have q0:=q 0 (by omega)
 rw[Nat.add_zero] at q0
 simp only[q0,q 1 (by omega),q 2 (by omega),q 3 (by omega),q 4 (by omega),q 5 (by omega),q 6 (by omega),q 7 (by omega),Bool.or_false]
theorem Z25 (g:Nat→Bool) (i:Nat) (hi:i<2048):(Og g).set (i / 8) (.int .u8 ((Nat.lor (byB g (i / 8)) (2 ^ (i % 8)):Nat):Int))=Og (Zj8 g i):=by
 refine List.ext_getElem (by simp [Og]) fun t h1 h2=>?_
 rw[List.getElem_set]
 simp only[Og,List.getElem_map,List.getElem_range]
 by_cases e:i / 8=t
 ·rw[if_pos e,Yca,e]
 ·rw[if_neg e,Z30 _ _ _ (fun x=>e x.symm)]
theorem Zo7 (g:Nat→Bool) (t:Nat):byB g t<256:=Yhm ..
theorem Zi1 (i:Nat):2 ^ (i % 8)<256:=Nat.lt_of_lt_of_le (Nat.pow_lt_pow_right (by omega) (show i % 8<8 by omega)) (by decide)
theorem lor256 {a b:Nat} (ha:a<256) (hb:b<256):Nat.lor a b<256:=Nat.or_lt_two_pow (n:=8) ha hb
theorem land256 {a b:Nat} (ha:a<256):Nat.land a b<256:=Nat.lt_of_le_of_lt Nat.and_le_left ha
section
variable (Hh:Hearts K Tryz.prog)
include Hh
theorem isOk (h:Go.Ev.H) (i:Nat) (hi:i<2048):Zd K Tryz.prog 89 [.c (.int .i64 i)] h (.w (.c (.bool true))) h:=by
 refine Zd.goes fits Hh (by kernel_rfl) (by kernel_rfl) (by kernel_rfl) (show Tryz.f89.body=some (q89 []) by kernel_rfl) rfl ?_
 show Goes K Tryz.prog 9 none _ _ _ _ _
 refine Goes.Zq Yh9 ?_
 refine Goes.Zw q89_0 fits Hh Zb (by
  simp (maxSteps:=9^6) +decide (disch:=first|omega|(simp only[lens]<;>omega)|decide) only [go_sem,q89,Tryz.f89,Zc,Za,simprocAttr]
  rfl) ?_
 refine Goes.Zq q89_1 ?_
 refine Goes.Zw Yfe fits Hh Zb (by
  simp (maxSteps:=9^6) +decide (disch:=first|omega|(simp only[lens]<;>omega)|decide) only [go_sem,q89,Tryz.f89,Zc,Za,simprocAttr]
  rfl) ?_
 refine Goes.Gl Yd5 ?_
 simp (maxSteps:=9^6) +decide (disch:=first|omega|(simp only[lens]<;>omega)|decide) only [go_sem,Zc,Za,simprocAttr]<;>rfl
theorem Yfa (h:Go.Ev.H) (i:Nat):Zd K Tryz.prog 88 [.c (.int .i64 i)] h (.w (.c (.int .u8 ((2 ^ (i % 8):Nat):Int)))) h:=by
 have r1:Zb8 .i64 (i:Int) 8=some (.int .i64 ((i % 8:Nat):Int)):=Nu (b:=8) (by omega)
 have s1:Zap .u8 1 ((i % 8:Nat):Int)=some (.int .u8 ((2 ^ (i % 8):Nat):Int)):=by
  have h8:=Zi1 i
  unfold Zap
  rw[decide_eq_false (by omega),cond_false]
  have e:min ((i % 8:Nat):Int).toNat IntKind.u8.bits=i % 8:=by
   show min ((i % 8:Nat):Int).toNat 8=i % 8
   omega
  rw[e,Int.one_mul,Zpe ⟨Int.pow_nonneg (by omega),by exact_mod_cast h8⟩]
  congr 2
 refine Zd.goes fits Hh (by kernel_rfl) (by kernel_rfl) (by kernel_rfl) (show Tryz.f88.body=some (q88 []) by kernel_rfl) rfl ?_
 show Goes K Tryz.prog 6 none _ _ _ _ _
 refine Goes.Zq Yh6 ?_
 refine Goes.Zw q88_0 fits Hh Zb (by
  simp (maxSteps:=9^6) +decide (disch:=first|omega|(simp only[lens]<;>omega)|decide) only [go_sem,q88,Tryz.f88,Zc,Za,simprocAttr,r1,s1]
  rfl) ?_
 refine Goes.Zq q88_1 ?_
 refine Goes.Zw Yfj fits Hh Zb (by
  simp (maxSteps:=9^6) +decide (disch:=first|omega|(simp only[lens]<;>omega)|decide) only [go_sem,q88,Tryz.f88,Zc,Za,simprocAttr,r1,s1]
  rfl) ?_
 refine Goes.Gl Ydu ?_
 simp (maxSteps:=9^6) +decide (disch:=first|omega|(simp only[lens]<;>omega)|decide) only [go_sem,Zc,Za,simprocAttr,r1,s1]<;>rfl
theorem Yda (h:Go.Ev.H) (b i:Nat) (g:Nat→Bool) (hi:i<2048) (hg:g i=false) (hb:h.get b=some (.row 256 [Og g] false)):Zd K Tryz.prog 41 [.c (.ptr b 0),.c (.int .i64 i)] h (.w (.c (.bool true))) (h.put b (.row 256 [Og (Zj8 g i)] false)):=by
 have c1:=isOk Hh h i hi
 have c2:=Yfa Hh h i
 have q1:V5 .i64 (i:Int) 8=some (.int .i64 ((i / 8:Nat):Int)):=Lt (b:=8) (by omega) (by omega)
 have rd:read1 256 [Og g] (i / 8)=some (.int .u8 ((byB g (i / 8):Nat):Int)):=by
  unfold read1
  rw[Nat.div_eq_of_lt (by omega),Nat.mod_eq_of_lt (by omega),List.getElem?_cons_zero]
  exact Z1r g _ (by omega)
 have wr:Zx 256 [Og g] (i / 8) [.int .u8 ((Nat.lor (byB g (i / 8)) (2 ^ (i % 8)):Nat):Int)]=some [Og (Zj8 g i)]:=by
  simp only[Zx]
  rw[Nat.div_eq_of_lt (by omega),Nat.mod_eq_of_lt (by omega),List.getElem?_cons_zero]
  simp only[Bq]
  rw[Zn0 (by omega),cond_true,Z25 g i hi]
  rfl
 have l1:Ep .u8 Nat.land ((byB g (i / 8):Nat):Int) ((2 ^ (i % 8):Nat):Int)=.int .u8 ((0:Nat):Int):=by
  rw[Ydf (Zo7 _ _) (Zi1 _) (land256 (Zo7 _ _)),Z6a,hg]
  rfl
 have l2:Ep .u8 Nat.lor ((byB g (i / 8):Nat):Int) ((2 ^ (i % 8):Nat):Int)=.int .u8 ((Nat.lor (byB g (i / 8)) (2 ^ (i % 8)):Nat):Int):=Ydf (Zo7 _ _) (Zi1 _) (lor256 (Zo7 _ _) (Zi1 _))
 refine Zd.goes fits Hh (by kernel_rfl) (by kernel_rfl) (by kernel_rfl) (show Tryz.f41.body=some (q41 []) by kernel_rfl) rfl ?_
 show Goes K Tryz.prog 35 none _ _ _ _ _
 refine Goes.Zq Yh8 ?_
 refine Goes.Zw q41_0 fits Hh Zb (by
  simp (maxSteps:=9^6) +decide (disch:=first|omega|(simp only[lens]<;>omega)|decide) only [go_sem,q41,Tryz.f41,Zc,Za,simprocAttr,q1,rd,wr,l1,l2,hb]
  rfl) ?_
 refine Goes.Zq q41_1 ?_
 refine Goes.Zq Yfz ?_
 refine Goes.Zqr Ycm fits Hh (Z8 (Z8 Zb c1) c2) (by kernel_rfl) (by
  simp (maxSteps:=9^6) +decide (disch:=first|omega|(simp only[lens]<;>omega)|decide) only [go_sem,q41,Tryz.f41,Zc,Za,simprocAttr,U2,Je,Ju,Ux,Y9,Uv,Jp,Yw,Jt,Uy,Gg,Jy,Yq,Y1,Yu,Yv,J2,Jb,Jf,Yx,Y8,Jz,Bh,O8,Gu,Rl,R8,Ot,Oj,Uh,G7,Oq,Oc,Uw,Jd,Uo,looks,En,Op.operands,Call.operands,kd,Ox,List.filterMap_cons,List.filterMap_nil,List.append_nil,List.nil_append,List.cons_append,Jk,stable,J5,Oa,Uu,waits,Ja,List.all_cons,List.all_nil,List.any_cons,List.any_nil,Region.binds,Bool.or_true,Bool.true_or,Bool.and_true,Bool.true_and,Bool.or_false,Bool.false_or,Bool.and_self,Bool.or_self,Jq,Nat.le_refl,Nat.le_add_right,List.map_cons,Array.toList_append,Yo,q1,rd,wr,l1,l2,hb]
  rfl) ?_
 refine Goes.Yy Ybc (by simp (maxSteps:=9^6) +decide (disch:=first|omega|(simp only[lens]<;>omega)|decide) only [go_sem,Zc,Za,simprocAttr,q1,rd,wr,l1,l2,hb]<;>rfl) (by first|rfl|assumption|exact decide_eq_false (by omega)|(simp; omega)) ?_
 refine Goes.Jc Z7b ?_
 refine Goes.Zq Ydv ?_
 refine Goes.Zqr Z9k fits Hh (Z8 Zb c2) (by kernel_rfl) (by
  simp (maxSteps:=9^6) +decide (disch:=first|omega|(simp only[lens]<;>omega)|decide) only [go_sem,q41,Tryz.f41,Zc,Za,simprocAttr,U2,Je,Ju,Ux,Y9,Uv,Jp,Yw,Jt,Uy,Gg,Jy,Yq,Y1,Yu,Yv,J2,Jb,Jf,Yx,Y8,Jz,Bh,O8,Gu,Rl,R8,Ot,Oj,Uh,G7,Oq,Oc,Uw,Jd,Uo,looks,En,Op.operands,Call.operands,kd,Ox,List.filterMap_cons,List.filterMap_nil,List.append_nil,List.nil_append,List.cons_append,Jk,stable,J5,Oa,Uu,waits,Ja,List.all_cons,List.all_nil,List.any_cons,List.any_nil,Region.binds,Bool.or_true,Bool.true_or,Bool.and_true,Bool.true_and,Bool.or_false,Bool.false_or,Bool.and_self,Bool.or_self,Jq,Nat.le_refl,Nat.le_add_right,List.map_cons,Array.toList_append,Yo,q1,rd,wr,l1,l2,hb]
  rfl) ?_
 refine Goes.Zq Z9i ?_
 refine Goes.Zw Z83 fits Hh Zb (by
  simp (maxSteps:=9^6) +decide (disch:=first|omega|(simp only[lens]<;>omega)|decide) only [go_sem,q41,Tryz.f41,Zc,Za,simprocAttr,q1,rd,wr,l1,l2,hb]
  rfl) ?_
 refine Goes.Gl Z7h ?_
 simp (maxSteps:=9^6) +decide (disch:=first|omega|(simp only[lens]<;>omega)|decide) only [go_sem,Zc,Za,simprocAttr,q1,rd,wr,l1,l2,hb]<;>rfl
end
end Go.Proofs.YtmdibcklpmeleaaGreatDoor
set_option maxRecDepth 100000
namespace Go.Proofs.YtmdibcklpmeleaaGreatDoor
open Go.Ev
noncomputable def q56 (p:List Nat):Code:=piece p (Z5 Tryz.f56)
theorem Yia:q56 []=.seq (q56 [0]) (q56 [1]):=by kernel_rfl
theorem q56_0:q56 [0]=.region 0 (Zt (q56 [0])) false:=by kernel_rfl
theorem q56_1:q56 [1]=.seq (q56 [1,0]) (q56 [1,1]):=by kernel_rfl
theorem Yfl:q56 [1,0]=.region 1 (Zt (q56 [1,0])) false:=by kernel_rfl
theorem Ydo:q56 [1,1]=.seq (q56 [1,1,0]) (q56 [1,1,1]):=by kernel_rfl
theorem Yb4:q56 [1,1,0]=.seq (q56 [1,1,0,0]) (q56 [1,1,0,1]):=by kernel_rfl
theorem Z70:q56 [1,1,0,0]=.region 2 (Zt (q56 [1,1,0,0])) false:=by kernel_rfl
theorem Z8h:q56 [1,1,0,1]=.block 0 (q56 [1,1,0,1,2]):=by kernel_rfl
theorem Zfx:q56 [1,1,0,1,2]=.loop (q56 [1,1,0,1,2,2]):=by kernel_rfl
theorem Zkf:q56 [1,1,0,1,2,2]=.seq (q56 [1,1,0,1,2,2,0]) (q56 [1,1,0,1,2,2,1]):=by kernel_rfl
theorem Zhr:q56 [1,1,0,1,2,2,0]=.region 3 (Zt (q56 [1,1,0,1,2,2,0])) false:=by kernel_rfl
theorem Zhq:q56 [1,1,0,1,2,2,1]=.seq (q56 [1,1,0,1,2,2,1,0]) (q56 [1,1,0,1,2,2,1,1]):=by kernel_rfl
theorem Ze8:q56 [1,1,0,1,2,2,1,0]=.cond (.tmp 10) (q56 [1,1,0,1,2,2,1,0,3]) (q56 [1,1,0,1,2,2,1,0,4]):=by kernel_rfl
theorem Zm5:q56 [1,1,0,1,2,2,1,0,3]=.skip:=by kernel_rfl
theorem Zna:q56 [1,1,0,1,2,2,1,0,4]=.exit 0:=by kernel_rfl
theorem Zqz:q56 [1,1,0,1,2,2,1,1]=.seq (q56 [1,1,0,1,2,2,1,1,0]) (q56 [1,1,0,1,2,2,1,1,1]):=by kernel_rfl
theorem Zmv:q56 [1,1,0,1,2,2,1,1,0]=.block 1 (q56 [1,1,0,1,2,2,1,1,0,2]):=by kernel_rfl
theorem Zjm:q56 [1,1,0,1,2,2,1,1,0,2]=.seq (q56 [1,1,0,1,2,2,1,1,0,2,0]) (q56 [1,1,0,1,2,2,1,1,0,2,1]):=by kernel_rfl
theorem Zii:q56 [1,1,0,1,2,2,1,1,0,2,0]=.region 4 (Zt (q56 [1,1,0,1,2,2,1,1,0,2,0])) false:=by kernel_rfl
theorem Zib:q56 [1,1,0,1,2,2,1,1,0,2,1]=.region 5 (Zt (q56 [1,1,0,1,2,2,1,1,0,2,1])) false:=by kernel_rfl
theorem Znj:q56 [1,1,0,1,2,2,1,1,1]=.region 6 (Zt (q56 [1,1,0,1,2,2,1,1,1])) false:=by kernel_rfl
theorem Yaw:q56 [1,1,1]=.seq (q56 [1,1,1,0]) (q56 [1,1,1,1]):=by kernel_rfl
theorem Z86:q56 [1,1,1,0]=.seq (q56 [1,1,1,0,0]) (q56 [1,1,1,0,1]):=by kernel_rfl
theorem Z34:q56 [1,1,1,0,0]=.region 7 (Zt (q56 [1,1,1,0,0])) false:=by kernel_rfl
theorem Z21:q56 [1,1,1,0,1]=.block 2 (q56 [1,1,1,0,1,2]):=by kernel_rfl
theorem Zdd:q56 [1,1,1,0,1,2]=.loop (q56 [1,1,1,0,1,2,2]):=by kernel_rfl
theorem Zhs:q56 [1,1,1,0,1,2,2]=.seq (q56 [1,1,1,0,1,2,2,0]) (q56 [1,1,1,0,1,2,2,1]):=by kernel_rfl
theorem Zdk:q56 [1,1,1,0,1,2,2,0]=.seq (q56 [1,1,1,0,1,2,2,0,0]) (q56 [1,1,1,0,1,2,2,0,1]):=by kernel_rfl
theorem Zbs:q56 [1,1,1,0,1,2,2,0,0]=.region 8 (Zt (q56 [1,1,1,0,1,2,2,0,0])) false:=by kernel_rfl
theorem Zcf:q56 [1,1,1,0,1,2,2,0,1]=.cond (.tmp 17) (q56 [1,1,1,0,1,2,2,0,1,3]) (q56 [1,1,1,0,1,2,2,0,1,4]):=by kernel_rfl
theorem Zkk:q56 [1,1,1,0,1,2,2,0,1,3]=.skip:=by kernel_rfl
theorem Zjt:q56 [1,1,1,0,1,2,2,0,1,4]=.exit 2:=by kernel_rfl
theorem Zqp:q56 [1,1,1,0,1,2,2,1]=.seq (q56 [1,1,1,0,1,2,2,1,0]) (q56 [1,1,1,0,1,2,2,1,1]):=by kernel_rfl
theorem Zm7:q56 [1,1,1,0,1,2,2,1,0]=.block 3 (q56 [1,1,1,0,1,2,2,1,0,2]):=by kernel_rfl
theorem Zk6:q56 [1,1,1,0,1,2,2,1,0,2]=.region 10 (Zt (q56 [1,1,1,0,1,2,2,1,0,2])) false:=by kernel_rfl
theorem Zm6:q56 [1,1,1,0,1,2,2,1,1]=.region 9 (Zt (q56 [1,1,1,0,1,2,2,1,1])) false:=by kernel_rfl
theorem Z9d:q56 [1,1,1,1]=.seq (q56 [1,1,1,1,0]) (q56 [1,1,1,1,1]):=by kernel_rfl
theorem Z3s:q56 [1,1,1,1,0]=.region 11 (Zt (q56 [1,1,1,1,0])) false:=by kernel_rfl
theorem Z2m:q56 [1,1,1,1,1]=.ret:=by kernel_rfl
theorem rs56:Tryz.f56.results.toList=[.cell 4 78]:=rfl
attribute [go_sem] rs56
def Zgt (i:Nat):Nat→Bool:=fun j=>decide (j<i)
def Qn (u s i:Nat):Nat→Bool:=fun j=>decide (j<u) || (decide (s≤j)&&decide (j<i))
theorem Z7z (i:Nat):Zj8 (Zgt i) i=Zgt (i+1):=by
 funext j
 unfold Zj8 Zgt
 rw[←Bool.decide_or,decide_eq_decide]
 omega
theorem Z82 (u s i:Nat) (h:s≤i):Zj8 (Qn u s i) i=Qn u s (i+1):=by
 funext j
 unfold Zj8 Qn
 rw[←Bool.decide_and,←Bool.decide_and,←Bool.decide_or,←Bool.decide_or,←Bool.decide_or,decide_eq_decide]
 omega
theorem Zyl (u s:Nat):Qn u s s=Zgt u:=by
 funext j
 unfold Qn Zgt
 rw[←Bool.decide_and,←Bool.decide_or,decide_eq_decide]
 omega
theorem Z2l:List.replicate 256 (C.int .u8 0)=Og (Zgt 0):=by kernel_rfl
def bmB (u s:Nat):List C:=Og (Qn u s 2048)
section
variable (Hh:Hearts K Tryz.prog)
include Hh
theorem bm1 (p u:Nat) (hu:u≤2048):∀ (k i:Nat) (ts:Zy) (h:Go.Ev.H),i+k=u→h.get p=some (.row 256 [Og (Zgt i)] false)→Zp ts 5=.w (.c (.ptr p 0))→Zp ts 8=.w (.c (.int .i64 u))→Zp ts 9=.w (.c (.int .i64 i)) →
  Goes K Tryz.prog 23 none (q56 [1,1,0,1,2]) [] ts h fun x ds' ts' h'=>x=.exit 0∧ds'=[]∧h'.next=h.next∧h'.get p=some (.row 256 [Og (Zgt u)] false)∧(∀ m,m≠p→h'.get m=h.get m)∧∀ s,s≤5→Zp ts' s=Zp ts s:=by
 intro k
 induction k with
 | zero =>
  intro i ts h hi hp h5 h8 h9
  obtain rfl:i=u:=by omega
  refine Goes.Lm Zfx (Goes.loop ?_)
  refine Goes.Zq Zkf ?_
  refine Goes.Zw Zhr fits Hh Zb (by
   simp (maxSteps:=9^6) +decide (disch:=first|omega|(simp only[lens]<;>omega)|decide) only [go_sem,q56,Tryz.f56,Zc,Za,simprocAttr,h8,h9]
   rfl) ?_
  refine Goes.Zq Zhq ?_
  refine Goes.Yy Ze8 (by simp (maxSteps:=9^6) +decide (disch:=first|omega|(simp only[lens]<;>omega)|decide) only [go_sem,Zc,Za,simprocAttr,h8,h9]<;>rfl) (by first|rfl|assumption|exact decide_eq_false (by omega)|(simp; omega)) ?_
  refine Goes.Zln Zna ?_
  refine⟨rfl,rfl,rfl,hp,fun _ _=>rfl,fun s hs=>?_⟩
  simp (decide:=true) only [Uj hs]
 | succ k ih =>
  intro i ts h hi hp h5 h8 h9
  have c1:=Yda Hh h p i (Zgt i) (by omega) (by simp [Zgt]) hp
  rw[Z7z] at c1
  refine Goes.Lm Zfx (Goes.loop ?_)
  refine Goes.Zq Zkf ?_
  refine Goes.Zw Zhr fits Hh Zb (by
   simp (maxSteps:=9^6) +decide (disch:=first|omega|(simp only[lens]<;>omega)|decide) only [go_sem,q56,Tryz.f56,Zc,Za,simprocAttr,h5,h8,h9]
   rfl) ?_
  refine Goes.Zq Zhq ?_
  refine Goes.Ob Ze8 (by simp (maxSteps:=9^6) +decide (disch:=first|omega|(simp only[lens]<;>omega)|decide) only [go_sem,Zc,Za,simprocAttr,h5,h8,h9]<;>rfl) (by first|rfl|assumption|exact decide_eq_true (by omega)|(simp; omega)) ?_
  refine Goes.Jc Zm5 ?_
  refine Goes.Zq Zqz ?_
  refine Goes.Ul Zmv (Goes.block ?_)
  refine Goes.Zq Zjm ?_
  refine Goes.Zw Zii fits Hh Zb (by
   simp (maxSteps:=9^6) +decide (disch:=first|omega|(simp only[lens]<;>omega)|decide) only [go_sem,q56,Tryz.f56,Zc,Za,simprocAttr,h5,h8,h9]
   rfl) ?_
  refine Goes.Zw Zib fits Hh (Z8 Zb c1) (by
   simp (maxSteps:=9^6) +decide (disch:=first|omega|(simp only[lens]<;>omega)|decide) only [go_sem,q56,Tryz.f56,Zc,Za,simprocAttr,Yo,h5,h8,h9]
   rfl) ?_
  refine Goes.Zw Znj fits Hh Zb (by
   simp (maxSteps:=9^6) +decide (disch:=first|omega|(simp only[lens]<;>omega)|decide) only [go_sem,q56,Tryz.f56,Zc,Za,simprocAttr,h5,h8,h9]
   rfl) ?_
  show Goes K Tryz.prog 23 none (.loop (q56 [1,1,0,1,2,2])) _ _ _ _
  rw[←Zfx]
  refine (ih (i+1) _ _ (by omega) (Yk ..) ?_ ?_ ?_).mono ?_
  ·simp (decide:=true) only [Zi,reduceIte,h5]
  ·simp (decide:=true) only [Zi,reduceIte,h8]
  ·simp (decide:=true) only [Zi,reduceIte]<;>rfl
  ·rintro x ds' ts' h' ⟨e1,e2,e3,e4,e5,e6⟩
   refine⟨e1,e2,e3,e4,fun m hm=>(e5 m hm).trans (Zv hm),fun s hs=>(e6 s hs).trans ?_⟩
   simp (decide:=true) only [Uj hs]
theorem bm2 (p u z:Nat) (hz:z≤2048) (huz:u≤z):∀ (k i:Nat) (ts:Zy) (h:Go.Ev.H),i+k=2048→z≤i→h.get p=some (.row 256 [Og (Qn u z i)] false)→Zp ts 5=.w (.c (.ptr p 0))→Zp ts 7=.w (.c (.int .i64 i)) →
  Goes K Tryz.prog 23 none (q56 [1,1,1,0,1,2]) [] ts h fun x ds' ts' h'=>x=.exit 2∧ds'=[]∧h'.next=h.next∧h'.get p=some (.row 256 [Og (Qn u z 2048)] false)∧(∀ m,m≠p→h'.get m=h.get m)∧∀ s,s≤5→Zp ts' s=Zp ts s:=by
 intro k
 induction k with
 | zero =>
  intro i ts h hi hzi hp h5 h7
  obtain rfl:i=2048:=by omega
  refine Goes.Lm Zdd (Goes.loop ?_)
  refine Goes.Zq Zhs ?_
  refine Goes.Zq Zdk ?_
  refine Goes.Zw Zbs fits Hh Zb (by
   simp (maxSteps:=9^6) +decide (disch:=first|omega|(simp only[lens]<;>omega)|decide) only [go_sem,q56,Tryz.f56,Zc,Za,simprocAttr,h7]
   rfl) ?_
  refine Goes.Yy Zcf (by simp (maxSteps:=9^6) +decide (disch:=first|omega|(simp only[lens]<;>omega)|decide) only [go_sem,Zc,Za,simprocAttr,h7]<;>rfl) (by first|rfl|assumption|exact decide_eq_false (by omega)|(simp; omega)) ?_
  refine Goes.Zln Zjt ?_
  refine⟨rfl,rfl,rfl,hp,fun _ _=>rfl,fun s hs=>?_⟩
  simp (decide:=true) only [Uj hs]
 | succ k ih =>
  intro i ts h hi hzi hp h5 h7
  have c1:=Yda Hh h p i (Qn u z i) (by omega) (by simp [Qn]; omega) hp
  rw[Z82 _ _ _ hzi] at c1
  refine Goes.Lm Zdd (Goes.loop ?_)
  refine Goes.Zq Zhs ?_
  refine Goes.Zq Zdk ?_
  refine Goes.Zw Zbs fits Hh Zb (by
   simp (maxSteps:=9^6) +decide (disch:=first|omega|(simp only[lens]<;>omega)|decide) only [go_sem,q56,Tryz.f56,Zc,Za,simprocAttr,h5,h7]
   rfl) ?_
  refine Goes.Ob Zcf (by simp (maxSteps:=9^6) +decide (disch:=first|omega|(simp only[lens]<;>omega)|decide) only [go_sem,Zc,Za,simprocAttr,h5,h7]<;>rfl) (by first|rfl|assumption|exact decide_eq_true (by omega)|(simp; omega)) ?_
  refine Goes.Jc Zkk ?_
  refine Goes.Zq Zqp ?_
  refine Goes.Ul Zm7 (Goes.block ?_)
  refine Goes.Zw Zk6 fits Hh (Z8 Zb c1) (by
   simp (maxSteps:=9^6) +decide (disch:=first|omega|(simp only[lens]<;>omega)|decide) only [go_sem,q56,Tryz.f56,Zc,Za,simprocAttr,Yo,h5,h7]
   rfl) ?_
  refine Goes.Zw Zm6 fits Hh Zb (by
   simp (maxSteps:=9^6) +decide (disch:=first|omega|(simp only[lens]<;>omega)|decide) only [go_sem,q56,Tryz.f56,Zc,Za,simprocAttr,h5,h7]
   rfl) ?_
  show Goes K Tryz.prog 23 none (.loop (q56 [1,1,1,0,1,2,2])) _ _ _ _
  rw[←Zdd]
  refine (ih (i+1) _ _ (by omega) (by omega) (Yk ..) ?_ ?_).mono ?_
  ·simp (decide:=true) only [Zi,reduceIte,h5]
  ·simp (decide:=true) only [Zi,reduceIte]<;>rfl
  ·rintro x ds' ts' h' ⟨e1,e2,e3,e4,e5,e6⟩
   refine⟨e1,e2,e3,e4,fun m hm=>(e5 m hm).trans (Zv hm),fun s hs=>(e6 s hs).trans ?_⟩
   simp (decide:=true) only [Uj hs]
theorem Zsr (h:Go.Ev.H) (u z:Nat) (huz:u≤z) (hz:z≤2048):Zd K Tryz.prog 56 [.c (.int .i64 u),.c (.int .i64 z)] h (.w (.g (bmB u z))) h:=by
 obtain⟨v,h',c,rfl,hk⟩:∃ v h',Zd K Tryz.prog 56 [.c (.int .i64 u),.c (.int .i64 z)] h v h'∧v=(.w (.g (bmB u z)))∧∀ m,m<h.next→h'.get m=h.get m:=by
  have z0:=Z2l
  refine Zd.Ya fits Hh (by kernel_rfl) (by kernel_rfl) (by kernel_rfl) (show Tryz.f56.body=some (q56 []) by kernel_rfl) rfl ?_
  show Goes K Tryz.prog 23 none _ _ _ _ _
  refine Goes.Zq Yia ?_
  refine Goes.Zw q56_0 fits Hh Zb (by
   simp (maxSteps:=9^6) +decide (disch:=first|omega|(simp only[lens]<;>omega)|decide) only [go_sem,q56,Tryz.f56,Zc,Za,simprocAttr,z0]
   rfl) ?_
  refine Goes.Zq q56_1 ?_
  refine Goes.Zw Yfl fits Hh Zb (by
   simp (maxSteps:=9^6) +decide (disch:=first|omega|(simp only[lens]<;>omega)|decide) only [go_sem,q56,Tryz.f56,Zc,Za,simprocAttr,z0]
   rfl) ?_
  refine Goes.Zq Ydo ?_
  refine Goes.Zq Yb4 ?_
  refine Goes.Zw Z70 fits Hh Zb (by
   simp (maxSteps:=9^6) +decide (disch:=first|omega|(simp only[lens]<;>omega)|decide) only [go_sem,q56,Tryz.f56,Zc,Za,simprocAttr,z0]
   rfl) ?_
  refine Goes.Ul Z8h (Goes.block ?_)
  refine (bm1 Hh (h.next+1) u (by omega) u 0 _ _ (by omega) ?_ ?_ ?_ ?_).mono ?_
  ·exact El _ _
  ·simp (decide:=true) only [Zi,reduceIte]
  ·simp (decide:=true) only [Zi,reduceIte]<;>rfl
  ·simp (decide:=true) only [Zi,reduceIte]<;>rfl
  rintro x ds' ts' h' ⟨rfl,rfl,n1,g1,k1,t1⟩
  have f1:=t1 1 (by decide)
  have f4:=t1 4 (by decide)
  have f5:=t1 5 (by decide)
  simp (maxSteps:=9^6) +decide (disch:=first|omega|(simp only[lens]<;>omega)|decide) only [go_sem,Zc,Za,simprocAttr] at f1 f4 f5
  refine Goes.Zq Yaw ?_
  refine Goes.Zq Z86 ?_
  skip
  refine Goes.Zw Z34 fits Hh Zb (by
   simp (maxSteps:=9^6) +decide (disch:=first|omega|(simp only[lens]<;>omega)|decide) only [go_sem,q56,Tryz.f56,Zc,Za,simprocAttr,z0]
   rfl) ?_
  refine Goes.Ul Z21 (Goes.block ?_)
  refine (bm2 Hh (h.next+1) u z hz huz (2048 - z) z _ _ (by omega) (by omega) ?_ ?_ ?_).mono ?_
  ·rw[Zyl]; exact g1
  ·simp (decide:=true) only [Zi,reduceIte,f5]
  ·simp (decide:=true) only [Zi,reduceIte,f1]
  rintro x ds' ts2 h2 ⟨rfl,rfl,n2,g2,k2,t2⟩
  have y4:=t2 4 (by decide)
  have y5:=t2 5 (by decide)
  simp (maxSteps:=9^6) +decide (disch:=first|omega|(simp only[lens]<;>omega)|decide) only [go_sem,Zc,Za,simprocAttr,f4,f5] at y4 y5
  have a2:h2.get h.next=some (.row 256 [Og (Zgt 0)] false):=by rw[k2 _ (by omega),k1 _ (by omega)]; simp (maxSteps:=9^6) +decide (disch:=first|omega|(simp only[lens]<;>omega)|decide) only [go_sem,Zc,Za,simprocAttr]
  have r2:Zc 256 [Og (Qn u z 2048)] 0 256=some (Og (Qn u z 2048)):=by
   have:=Q6 (l:=Og (Qn u z 2048)) (by rw[Bq]; omega)
   rwa [Bq] at this
  have r3:Zc 256 [Og (Qn u z 2048)] 0 256=some (Og (Qn u z 2048)):=r2
  have w2:Zx 256 [Og (Zgt 0)] 0 (Og (Qn u z 2048))=some [Og (Qn u z 2048)]:=by
   have:=Xx (l:=Og (Zgt 0)) (l':=Og (Qn u z 2048)) (by rw[Bq]; omega) (by rw[Bq,Bq])
   rwa [Bq] at this
  refine Goes.Zq Z9d ?_
  refine Goes.Zw Z3s fits Hh Zb (by
   simp (maxSteps:=9^6) +decide (disch:=first|omega|(simp only[lens]<;>omega)|decide) only [go_sem,q56,Tryz.f56,Zc,Za,simprocAttr,y4,y5,g2,a2,r2,w2,Bq,z0]
   rfl) ?_
  refine Goes.Gl Z2m ?_
  refine⟨_,_,(by simp (maxSteps:=9^6) +decide (disch:=first|omega|(simp only[lens]<;>omega)|decide) only [go_sem,Zc,Za,simprocAttr,y4,y5,g2,r2,Bq]<;>rfl),rfl,fun m hm=>?_⟩
  simp (maxSteps:=9^6) +decide (disch:=first|omega|(simp only[lens]<;>omega)|decide) only [go_sem,Zc,Za,simprocAttr,k2,k1]
 exact Zd.quiet c (by simp [V.flat,W.flat,bmB,Og,C.flat]) hk
end
end Go.Proofs.YtmdibcklpmeleaaGreatDoor
set_option maxRecDepth 100000
namespace Go.Proofs.YtmdibcklpmeleaaGreatDoor
open Go.Ev
def xBm (args:List W) (h:Go.Ev.H):Option (V × Go.Ev.H):=match args with
 | [.c (.int .i64 (.ofNat u)),.c (.int .i64 (.ofNat z))]=>bif Nat.ble u z&&Nat.ble z 2048 then some (.w (.g (bmB u z)),h) else none
 | _=>none
noncomputable def x3:Kn:=fun f args h=>bif Nat.beq f 56 then xBm args h else bif Nat.beq f 161 then Yfq args h else bif Nat.beq f 77 then Z6y args h else none
section
variable (Hh:Hearts K Tryz.prog)
include Hh
theorem Yfn {args:List W} {h h':Go.Ev.H} {v:V} (e:xBm args h=some (v,h')):Zd K Tryz.prog 56 args h v h':=by
 unfold xBm at e
 split at e
 ·rename_i u z
  cases hb:(Nat.ble u z&&Nat.ble z 2048) with
  | false=>rw[hb] at e; cases e
  | true =>
   rw[hb] at e
   cases e
   simp only[Bool.and_eq_true] at hb
   exact Zsr Hh h u z (Nat.le_of_ble_eq_true hb.1) (Nat.le_of_ble_eq_true hb.2)
 ·cases e
theorem Zzm:Zjp K Tryz.prog x3:=by
 intro f args h v h' e
 unfold x3 at e
 cases h1:Nat.beq f 56 with
 | true =>
  rw[h1] at e
  obtain rfl:=Nat.eq_of_beq_eq_true h1
  exact Yfn Hh e
 | false =>
  rw[h1] at e
  cases h2:Nat.beq f 161 with
  | true =>
   rw[h2] at e
   obtain rfl:=Nat.eq_of_beq_eq_true h2
   exact Ycu Hh e
  | false =>
   rw[h2] at e
   cases h3:Nat.beq f 77 with
   | true =>
    rw[h3] at e
    obtain rfl:=Nat.eq_of_beq_eq_true h3
    exact Z6x Hh e
   | false=>rw[h3] at e; cases e
end
end Go.Proofs.YtmdibcklpmeleaaGreatDoor
