/- InodesBack, from its parts. -/
import Derived.Test.YtmdibcklpmeleaaGreatDoorFr24
import Derived.Test.YtmdibcklpmeleaaGreatDoorFit
import Derived.Test.YtmdibcklpmeleaaGreatDoorAw24
import Derived.Test.YtmdibcklpmeleaaGreatDoorEvC
set_option linter.unusedSimpArgs false
set_option linter.unusedVariables false
set_option linter.unusedSectionVars false
set_option maxRecDepth 100000
set_option maxHeartbeats 4000000
namespace Go.Proofs.YtmdibcklpmeleaaGreatDoor
open Go.Ev
noncomputable def q3 (p:List Nat):Code:=piece p (Z5 Tryz.f3)
theorem q3_:q3 []=.seq (q3 [0]) (q3 [1]):=by kernel_rfl
theorem q3_0:q3 [0]=.region 0 (Zt (q3 [0])) false:=by kernel_rfl
theorem q3_1:q3 [1]=.seq (q3 [1,0]) (q3 [1,1]):=by kernel_rfl
theorem Z5f:q3 [1,0]=.seq (q3 [1,0,0]) (q3 [1,0,1]):=by kernel_rfl
theorem Zyt:q3 [1,0,0]=.region 1 (Zt (q3 [1,0,0])) false:=by kernel_rfl
theorem Zwe:q3 [1,0,1]=.cond (.tmp 21) (q3 [1,0,1,3]) (q3 [1,0,1,4]):=by kernel_rfl
theorem Zp5:q3 [1,0,1,4]=.skip:=by kernel_rfl
theorem Z50:q3 [1,1]=.seq (q3 [1,1,0]) (q3 [1,1,1]):=by kernel_rfl
theorem Zv6:q3 [1,1,0]=.seq (q3 [1,1,0,0]) (q3 [1,1,0,1]):=by kernel_rfl
theorem Zpo:q3 [1,1,0,0]=.region 3 (Zt (q3 [1,1,0,0])) false:=by kernel_rfl
theorem Zqq:q3 [1,1,0,1]=.cond (.tmp 30) (q3 [1,1,0,1,3]) (q3 [1,1,0,1,4]):=by kernel_rfl
theorem Zs2:q3 [1,1,0,1,3]=.seq (q3 [1,1,0,1,3,0]) (q3 [1,1,0,1,3,1]):=by kernel_rfl
theorem Zn6:q3 [1,1,0,1,3,0]=.region 4 (Zt (q3 [1,1,0,1,3,0])) false:=by kernel_rfl
theorem Zox:q3 [1,1,0,1,3,1]=.ret:=by kernel_rfl
theorem Z6k:q3 [1,1,0,1,4]=.skip:=by kernel_rfl
theorem Yee:q3 [1,1,1]=.seq (q3 [1,1,1,0]) (q3 [1,1,1,1]):=by kernel_rfl
theorem Yck:q3 [1,1,1,0]=.region 5 (Zt (q3 [1,1,1,0])) false:=by kernel_rfl
theorem Z92:q3 [1,1,1,1]=.seq (q3 [1,1,1,1,0]) (q3 [1,1,1,1,1]):=by kernel_rfl
theorem Z5v:q3 [1,1,1,1,0]=.seq (q3 [1,1,1,1,0,0]) (q3 [1,1,1,1,0,1]):=by kernel_rfl
theorem Z0i:q3 [1,1,1,1,0,0]=.region 6 (Zt (q3 [1,1,1,1,0,0])) false:=by kernel_rfl
theorem Z32:q3 [1,1,1,1,0,1]=.cond (.tmp 45) (q3 [1,1,1,1,0,1,3]) (q3 [1,1,1,1,0,1,4]):=by kernel_rfl
theorem Zx9:q3 [1,1,1,1,0,1,4]=.skip:=by kernel_rfl
theorem Z8z:q3 [1,1,1,1,1]=.seq (q3 [1,1,1,1,1,0]) (q3 [1,1,1,1,1,1]):=by kernel_rfl
theorem Z2a:q3 [1,1,1,1,1,0]=.region 8 (Zt (q3 [1,1,1,1,1,0])) false:=by kernel_rfl
theorem Z0h:q3 [1,1,1,1,1,1]=.seq (q3 [1,1,1,1,1,1,0]) (q3 [1,1,1,1,1,1,1]):=by kernel_rfl
theorem Zyv:q3 [1,1,1,1,1,1,0]=.region 9 (Zt (q3 [1,1,1,1,1,1,0])) false:=by kernel_rfl
theorem Zwi:q3 [1,1,1,1,1,1,1]=.seq (q3 [1,1,1,1,1,1,1,0]) (q3 [1,1,1,1,1,1,1,1]):=by kernel_rfl
theorem Zuc:q3 [1,1,1,1,1,1,1,0]=.region 10 (Zt (q3 [1,1,1,1,1,1,1,0])) false:=by kernel_rfl
theorem Zsu:q3 [1,1,1,1,1,1,1,1]=.seq (q3 [1,1,1,1,1,1,1,1,0]) (q3 [1,1,1,1,1,1,1,1,1]):=by kernel_rfl
theorem Zqf:q3 [1,1,1,1,1,1,1,1,0]=.region 11 (Zt (q3 [1,1,1,1,1,1,1,1,0])) false:=by kernel_rfl
theorem Zo5:q3 [1,1,1,1,1,1,1,1,1]=.seq (q3 [1,1,1,1,1,1,1,1,1,0]) (q3 [1,1,1,1,1,1,1,1,1,1]):=by kernel_rfl
theorem Zm8:q3 [1,1,1,1,1,1,1,1,1,0]=.region 12 (Zt (q3 [1,1,1,1,1,1,1,1,1,0])) false:=by kernel_rfl
theorem Zmq:q3 [1,1,1,1,1,1,1,1,1,1]=.seq (q3 [1,1,1,1,1,1,1,1,1,1,0]) (q3 [1,1,1,1,1,1,1,1,1,1,1]):=by kernel_rfl
theorem Zko:q3 [1,1,1,1,1,1,1,1,1,1,0]=.seq (q3 [1,1,1,1,1,1,1,1,1,1,0,0]) (q3 [1,1,1,1,1,1,1,1,1,1,0,1]):=by kernel_rfl
theorem Zh9:q3 [1,1,1,1,1,1,1,1,1,1,0,0]=.region 13 (Zt (q3 [1,1,1,1,1,1,1,1,1,1,0,0])) false:=by kernel_rfl
theorem Zhw:q3 [1,1,1,1,1,1,1,1,1,1,0,1]=.cond (.tmp 103) (q3 [1,1,1,1,1,1,1,1,1,1,0,1,3]) (q3 [1,1,1,1,1,1,1,1,1,1,0,1,4]):=by kernel_rfl
theorem Zgm:q3 [1,1,1,1,1,1,1,1,1,1,0,1,4]=.skip:=by kernel_rfl
theorem Zmd:q3 [1,1,1,1,1,1,1,1,1,1,1]=.seq (q3 [1,1,1,1,1,1,1,1,1,1,1,0]) (q3 [1,1,1,1,1,1,1,1,1,1,1,1]):=by kernel_rfl
theorem Zhz:q3 [1,1,1,1,1,1,1,1,1,1,1,0]=.seq (q3 [1,1,1,1,1,1,1,1,1,1,1,0,0]) (q3 [1,1,1,1,1,1,1,1,1,1,1,0,1]):=by kernel_rfl
theorem Zfu:q3 [1,1,1,1,1,1,1,1,1,1,1,0,0]=.region 15 (Zt (q3 [1,1,1,1,1,1,1,1,1,1,1,0,0])) false:=by kernel_rfl
theorem Zfn:q3 [1,1,1,1,1,1,1,1,1,1,1,0,1]=.cond (.tmp 111) (q3 [1,1,1,1,1,1,1,1,1,1,1,0,1,3]) (q3 [1,1,1,1,1,1,1,1,1,1,1,0,1,4]):=by kernel_rfl
theorem Ze0:q3 [1,1,1,1,1,1,1,1,1,1,1,0,1,4]=.skip:=by kernel_rfl
theorem Zh2:q3 [1,1,1,1,1,1,1,1,1,1,1,1]=.seq (q3 [1,1,1,1,1,1,1,1,1,1,1,1,0]) (q3 [1,1,1,1,1,1,1,1,1,1,1,1,1]):=by kernel_rfl
theorem Zf1:q3 [1,1,1,1,1,1,1,1,1,1,1,1,0]=.seq (q3 [1,1,1,1,1,1,1,1,1,1,1,1,0,0]) (q3 [1,1,1,1,1,1,1,1,1,1,1,1,0,1]):=by kernel_rfl
theorem Zeu:q3 [1,1,1,1,1,1,1,1,1,1,1,1,0,0]=.region 17 (Zt (q3 [1,1,1,1,1,1,1,1,1,1,1,1,0,0])) false:=by kernel_rfl
theorem Zfi:q3 [1,1,1,1,1,1,1,1,1,1,1,1,0,1]=.cond (.tmp 114) (q3 [1,1,1,1,1,1,1,1,1,1,1,1,0,1,3]) (q3 [1,1,1,1,1,1,1,1,1,1,1,1,0,1,4]):=by kernel_rfl
theorem Zct:q3 [1,1,1,1,1,1,1,1,1,1,1,1,0,1,4]=.skip:=by kernel_rfl
theorem Zf8:q3 [1,1,1,1,1,1,1,1,1,1,1,1,1]=.seq (q3 [1,1,1,1,1,1,1,1,1,1,1,1,1,0]) (q3 [1,1,1,1,1,1,1,1,1,1,1,1,1,1]):=by kernel_rfl
theorem Zei:q3 [1,1,1,1,1,1,1,1,1,1,1,1,1,0]=.region 19 (Zt (q3 [1,1,1,1,1,1,1,1,1,1,1,1,1,0])) false:=by kernel_rfl
theorem Zdp:q3 [1,1,1,1,1,1,1,1,1,1,1,1,1,1]=.seq (q3 [1,1,1,1,1,1,1,1,1,1,1,1,1,1,0]) (q3 [1,1,1,1,1,1,1,1,1,1,1,1,1,1,1]):=by kernel_rfl
theorem Zcn:q3 [1,1,1,1,1,1,1,1,1,1,1,1,1,1,0]=.region 20 (Zt (q3 [1,1,1,1,1,1,1,1,1,1,1,1,1,1,0])) false:=by kernel_rfl
theorem Zcr:q3 [1,1,1,1,1,1,1,1,1,1,1,1,1,1,1]=.ret:=by kernel_rfl
theorem rs3:Tryz.f3.results.toList=[.tmp 8]:=rfl
attribute [go_sem] rs3
theorem Z2i {h:Go.Ev.H} {m:Nat} (hm:m<h.next) (a b c e:Nat) (md:Int) (L:List (List C)):(begun h a b c e md L).get m=h.get m:=by
 unfold begun Ztc Rc O9 frM Mx
 simp (discharger:=omega) only [H.get_put,H.Zh,H.Ze,H.Zg,if_neg]
theorem Zw6 (h:Go.Ev.H) (a b c e:Nat) (md:Int) (L:List (List C)):(begun h a b c e md L).get (h.next+29)=some (.map []):=by
 unfold begun Ztc Rc O9 frM Mx
 simp (discharger:=omega) only [H.get_put,H.Zh,H.Ze,H.Zg,if_neg,if_pos]
 rfl
section
variable (Hh:Hearts K Tryz.prog)
include Hh
theorem Yah {S:C} {len:Int} (lf:Ud K 24 (.c S)=true) (hln:∀ h,Yz K h 24 (.c S)=some (.int .i64 len)) (l1:0≤len) {h:Go.Ev.H} (hst:h.get 0=some Bz) (l0:0<h.next) (a b c d md ino other:Int) {k l g s p0 p1 p2 p3 p4 p5 p6 p7 p8 p9 p10 nx:Int} (gb:0≤g∧g<4294967296) (pb:∀ v∈[p0,p1,p2,p3,p4,p5,p6,p7,p8,p9,p10],0≤v∧v<4294967296) (nb:0≤nx∧nx<4294967296) :
  ∃ h',Zd K Tryz.prog 3 [.g [.int .i64 a,.int .i64 b,.int .i64 c,.int .i64 d,.int .u8 md,S],.c (.int .i64 ino),.c (.int .i64 other),.g (Dq k l g s p0 p1 p2 p3 p4 p5 p6 p7 p8 p9 p10 nx)] h (.w (.c (.bool true))) h':=by
 have cf:=fun h=>Yeq Hh lf hln a b c d md h
 have r6:Zc 6 [[.int .i64 a,.int .i64 b,.int .i64 c,.int .i64 d,.int .u8 md,S]] 0 6=some [.int .i64 a,.int .i64 b,.int .i64 c,.int .i64 d,.int .u8 md,S]:=rfl
 have r4:Zc 6 [[.int .i64 a,.int .i64 b,.int .i64 c,.int .i64 d,.int .u8 md,S]] 0 4=some [.int .i64 a,.int .i64 b,.int .i64 c,.int .i64 d]:=rfl
 have qy:=Zr3 k l g s p0 p1 p2 p3 p4 p5 p6 p7 p8 p9 p10 nx
 have yl:(Dq k l g s p0 p1 p2 p3 p4 p5 p6 p7 p8 p9 p10 nx).length=16:=rfl
 have hP:=fun {a b c d:Nat} {md:Int} {kn:Bool} {L:List (List C)} {n:Nat} {h:Go.Ev.H} (f:U7 a b c d=true) (I:Image a b c d L) (M:MdE n a b c d md kn [] [] L h)=>Yas Hh f I M ino (k:=k) (l:=l) (s:=s) gb pb nb
 obtain⟨y,hy⟩:∃ y,Dq k l g s p0 p1 p2 p3 p4 p5 p6 p7 p8 p9 p10 nx=y:=⟨_,rfl⟩
 rw[hy] at qy yl ⊢
 simp only[hy] at hP
 obtain⟨v,h',cc,rfl⟩:∃ v h',Zd K Tryz.prog 3 [.g [.int .i64 a,.int .i64 b,.int .i64 c,.int .i64 d,.int .u8 md,S],.c (.int .i64 ino),.c (.int .i64 other),.g y] h v h'∧v=.w (.c (.bool true)):=by
  rcases hf:Z5j a b c d md len with _|_
  ·
   rw[hf] at cf
   refine Zd.Ya fits Hh (by kernel_rfl) (by kernel_rfl) (by kernel_rfl) (show Tryz.f3.body=some (q3 []) by kernel_rfl) rfl ?_
   show Goes K Tryz.prog 124 none _ _ _ _ _
   refine Goes.Zq q3_ ?_
   refine Goes.Zw q3_0 fits Hh Zb (by
    simp (maxSteps:=9^6) +decide (disch:=first|omega|(simp only[lens]<;>omega)|decide) only [go_sem,q3,Tryz.f3,Za,simprocAttr,xaw,hst,r6,lf,hln,yl,read1,Zn,Zm]
    rfl) ?_
   refine Goes.Zq q3_1 ?_
   refine Goes.Zq Z5f ?_
   refine Goes.Zw Zyt fits Hh (Zf Zb (fun _ _ _ _=>Zxa Hh)) (by
    simp (maxSteps:=9^6) +decide (disch:=first|omega|(simp only[lens]<;>omega)|decide) only [go_sem,q3,Tryz.f3,Za,simprocAttr,xaw,hst,r6,lf,hln,yl,read1,Zn,Zm]
    rfl) ?_
   refine Goes.Yy Zwe (by simp (maxSteps:=9^6) +decide (disch:=first|omega|(simp only[lens]<;>omega)|decide) only [go_sem,Za,simprocAttr,xaw,hst,r6,lf,hln,yl,read1,Zn,Zm]<;>rfl) (by first|rfl|assumption|exact decide_eq_false (by omega)|(simp; omega)) ?_
   refine Goes.Jc Zp5 ?_
   refine Goes.Zq Z50 ?_
   refine Goes.Zq Zv6 ?_
   refine Goes.Zw Zpo fits Hh (Bo Zb cf) (by
    simp (maxSteps:=9^6) +decide (disch:=first|omega|(simp only[lens]<;>omega)|decide) only [go_sem,q3,Tryz.f3,Za,simprocAttr,xaw,hst,r6,lf,hln,yl,read1,Zn,Zm]
    rfl) ?_
   refine Goes.Ob Zqq (by simp (maxSteps:=9^6) +decide (disch:=first|omega|(simp only[lens]<;>omega)|decide) only [go_sem,Za,simprocAttr,xaw,hst,r6,lf,hln,yl,read1,Zn,Zm]<;>rfl) (by first|rfl|assumption|exact decide_eq_true (by omega)|(simp; omega)) ?_
   refine Goes.Zq Zs2 ?_
   refine Goes.Zw Zn6 fits Hh Zb (by
    simp (maxSteps:=9^6) +decide (disch:=first|omega|(simp only[lens]<;>omega)|decide) only [go_sem,q3,Tryz.f3,Za,simprocAttr,xaw,hst,r6,lf,hln,yl,read1,Zn,Zm]
    rfl) ?_
   refine Goes.Gl Zox ?_
   exact⟨_,_,(by simp (maxSteps:=9^6) +decide (disch:=first|omega|(simp only[lens]<;>omega)|decide) only [go_sem,Za,simprocAttr]<;>rfl),rfl⟩
  ·rw[hf] at cf
   by_cases hz:0<len
   ·
    refine Zd.Ya fits Hh (by kernel_rfl) (by kernel_rfl) (by kernel_rfl) (show Tryz.f3.body=some (q3 []) by kernel_rfl) rfl ?_
    show Goes K Tryz.prog 124 none _ _ _ _ _
    refine Goes.Zq q3_ ?_
    refine Goes.Zw q3_0 fits Hh Zb (by
     simp (maxSteps:=9^6) +decide (disch:=first|omega|(simp only[lens]<;>omega)|decide) only [go_sem,q3,Tryz.f3,Za,simprocAttr,xaw,hst,r6,lf,hln,yl,read1,Zn,Zm]
     rfl) ?_
    refine Goes.Zq q3_1 ?_
    refine Goes.Zq Z5f ?_
    refine Goes.Zw Zyt fits Hh (Zf Zb (fun _ _ _ _=>Zxa Hh)) (by
     simp (maxSteps:=9^6) +decide (disch:=first|omega|(simp only[lens]<;>omega)|decide) only [go_sem,q3,Tryz.f3,Za,simprocAttr,xaw,hst,r6,lf,hln,yl,read1,Zn,Zm]
     rfl) ?_
    refine Goes.Yy Zwe (by simp (maxSteps:=9^6) +decide (disch:=first|omega|(simp only[lens]<;>omega)|decide) only [go_sem,Za,simprocAttr,xaw,hst,r6,lf,hln,yl,read1,Zn,Zm]<;>rfl) (by first|rfl|assumption|exact decide_eq_false (by omega)|(simp; omega)) ?_
    refine Goes.Jc Zp5 ?_
    refine Goes.Zq Z50 ?_
    refine Goes.Zq Zv6 ?_
    refine Goes.Zw Zpo fits Hh (Bo Zb cf) (by
     simp (maxSteps:=9^6) +decide (disch:=first|omega|(simp only[lens]<;>omega)|decide) only [go_sem,q3,Tryz.f3,Za,simprocAttr,xaw,hst,r6,lf,hln,yl,read1,Zn,Zm]
     rfl) ?_
    refine Goes.Ob Zqq (by simp (maxSteps:=9^6) +decide (disch:=first|omega|(simp only[lens]<;>omega)|decide) only [go_sem,Za,simprocAttr,xaw,hst,r6,lf,hln,yl,read1,Zn,Zm]<;>rfl) (by first|rfl|assumption|exact decide_eq_true (by omega)|(simp; omega)) ?_
    refine Goes.Zq Zs2 ?_
    refine Goes.Zw Zn6 fits Hh Zb (by
     simp (maxSteps:=9^6) +decide (disch:=first|omega|(simp only[lens]<;>omega)|decide) only [go_sem,q3,Tryz.f3,Za,simprocAttr,xaw,hst,r6,lf,hln,yl,read1,Zn,Zm]
     rfl) ?_
    refine Goes.Gl Zox ?_
    exact⟨_,_,(by simp (maxSteps:=9^6) +decide (disch:=first|omega|(simp only[lens]<;>omega)|decide) only [go_sem,Za,simprocAttr]<;>rfl),rfl⟩
   ·unfold Z5j at hf
    simp only[Bool.and_eq_true,decide_eq_true_eq] at hf
    obtain⟨⟨⟨⟨hf,f1⟩,m1⟩,m3⟩,f4⟩:=hf
    have hf':=hf
    unfold Zex at hf'
    simp only[Bool.and_eq_true,decide_eq_true_eq] at hf'
    obtain⟨⟨⟨⟨p1',p2'⟩,p3'⟩,p4'⟩,fb⟩:=hf'
    obtain⟨a,rfl⟩:=Int.eq_ofNat_of_zero_le p1'
    obtain⟨b,rfl⟩:=Int.eq_ofNat_of_zero_le p2'
    obtain⟨c,rfl⟩:=Int.eq_ofNat_of_zero_le p3'
    obtain⟨d,rfl⟩:=Int.eq_ofNat_of_zero_le p4'
    simp only[Int.toNat_natCast] at fb
    obtain⟨g1,g2,g3,g4,g5,g6,g7,g8,g9,g10,g11⟩:=Yn fb
    refine Zd.Ya fits Hh (by kernel_rfl) (by kernel_rfl) (by kernel_rfl) (show Tryz.f3.body=some (q3 []) by kernel_rfl) rfl ?_
    show Goes K Tryz.prog 124 none _ _ _ _ _
    refine Goes.Zq q3_ ?_
    refine Goes.Zw q3_0 fits Hh Zb (by
     simp (maxSteps:=9^6) +decide (disch:=first|omega|(simp only[lens]<;>omega)|decide) only [go_sem,q3,Tryz.f3,Za,simprocAttr,xaw,hst,r6,r4,fb,lf,hln,yl,read1,Zn,Zm]
     rfl) ?_
    refine Goes.Zq q3_1 ?_
    refine Goes.Zq Z5f ?_
    refine Goes.Zw Zyt fits Hh (Zf Zb (fun _ _ _ _=>Zxa Hh)) (by
     simp (maxSteps:=9^6) +decide (disch:=first|omega|(simp only[lens]<;>omega)|decide) only [go_sem,q3,Tryz.f3,Za,simprocAttr,xaw,hst,r6,r4,fb,lf,hln,yl,read1,Zn,Zm]
     rfl) ?_
    refine Goes.Yy Zwe (by simp (maxSteps:=9^6) +decide (disch:=first|omega|(simp only[lens]<;>omega)|decide) only [go_sem,Za,simprocAttr,xaw,hst,r6,r4,fb,lf,hln,yl,read1,Zn,Zm]<;>rfl) (by first|rfl|assumption|exact decide_eq_false (by omega)|(simp; omega)) ?_
    refine Goes.Jc Zp5 ?_
    refine Goes.Zq Z50 ?_
    refine Goes.Zq Zv6 ?_
    refine Goes.Zw Zpo fits Hh (Bo Zb cf) (by
     simp (maxSteps:=9^6) +decide (disch:=first|omega|(simp only[lens]<;>omega)|decide) only [go_sem,q3,Tryz.f3,Za,simprocAttr,xaw,hst,r6,r4,fb,lf,hln,yl,read1,Zn,Zm]
     rfl) ?_
    refine Goes.Yy Zqq (by simp (maxSteps:=9^6) +decide (disch:=first|omega|(simp only[lens]<;>omega)|decide) only [go_sem,Za,simprocAttr,xaw,hst,r6,r4,fb,lf,hln,yl,read1,Zn,Zm]<;>rfl) (by first|rfl|assumption|exact decide_eq_false (by omega)|(simp; omega)) ?_
    refine Goes.Jc Z6k ?_
    refine Goes.Zq Yee ?_
    refine Goes.abs fun hA eA=>?_
    have nA:hA.next=h.next+1+1:=by rw[eA]; first|rfl|simp only[H.Zg,H.Ze]
    have kA:hA.get h.next=some (.row 6 [[.int .i64 (a:Int),.int .i64 (b:Int),.int .i64 (c:Int),.int .i64 (d:Int),.int .u8 md,S]] false):=by rw[eA]; simp (maxSteps:=9^6) +decide (disch:=first|omega|(simp only[lens]<;>omega)|decide) only [go_sem,Za,simprocAttr]<;>rfl
    have yA:hA.get (h.next+1)=some (.row 16 [y] false):=by rw[eA]; simp (maxSteps:=9^6) +decide (disch:=first|omega|(simp only[lens]<;>omega)|decide) only [go_sem,Za,simprocAttr,yl]<;>rfl
    have sA:hA.get 0=some Bz:=by rw[eA]; refine Eq.trans ?_ hst; (first|(simp (discharger:=omega) only [H.get_put,H.Zh,H.Zk,H.Ze,H.Zg,H.Zj,if_neg]; done)|(simp only[H.get_put,H.Zh,H.Zk,H.Ze,H.Zg,H.Zj]; (repeat' split)<;>first|rfl|(exfalso; omega)|omega))
    clear eA
    obtain⟨L,I,c5⟩:=Z1c Hh fb m1 m3 sA (by omega)
    have c6:=Zw4 Hh (Yiu hA a b c d md L fb)
    refine Goes.Zw Yck fits Hh (Z8 Zb c5) (by
     simp (maxSteps:=9^6) +decide (disch:=first|omega|(simp only[lens]<;>omega)|decide) only [go_sem,q3,Tryz.f3,Za,simprocAttr,Yo,xaw,hst,r6,r4,fb,lf,hln,yl,kA,read1,Zn,Zm]
     rfl) ?_
    refine Goes.Zq Z92 ?_
    refine Goes.Zq Z5v ?_
    refine Goes.Zw Z0i fits Hh (Z8 Zb c6) (by
     simp (maxSteps:=9^6) +decide (disch:=first|omega|(simp only[lens]<;>omega)|decide) only [go_sem,q3,Tryz.f3,Za,simprocAttr,Yo,xaw,hst,r6,r4,fb,lf,hln,yl,kA,read1,Zn,Zm]
     rfl) ?_
    refine Goes.Yy Z32 (by simp (maxSteps:=9^6) +decide (disch:=first|omega|(simp only[lens]<;>omega)|decide) only [go_sem,Za,simprocAttr,xaw,hst,r6,r4,fb,lf,hln,yl,kA,read1,Zn,Zm]<;>rfl) (by first|rfl|assumption|exact decide_eq_false (by omega)|(simp; omega)) ?_
    refine Goes.Jc Zx9 ?_
    refine Goes.abs fun hB eB=>?_
    have MB:Md hA.next a b c d md false [] [] [] L hB:=by rw[eB]; exact Z7g hA (by omega) sA a b c d md L
    have yB:hB.get (h.next+1)=some (.row 16 [y] false):=by rw[eB,Z2i (by omega)]; exact yA
    have vB:hB.get (hA.next+29)=some (.map []):=by rw[eB]; exact Zw6 ..
    clear eB
    obtain⟨n,hn⟩:∃ n,hA.next=n:=⟨_,rfl⟩
    simp only[hn] at *
    have nB:=MB.nx
    replace MB:MdE n a b c d md false [] [] L hB:=⟨[],rfl,Z7u L,MB⟩
    have F:=Yn fb
    have see0:=sees0 F I
    have q1:=eqG a b c d (U0 d) ino
    have q2:=eqG a b c d (U0 d) other
    have w1l:=Zqv a b c d (U0 d) ino
    have w2l:=Zqv a b c d (U0 d) other
    have hG1:=fun {S:Stt} {X:Tx} {h:Go.Ev.H} (R:RsE n a b c d md S X [] L h)=>Zzd Hh fb R see0 ino
    have hG2:=fun {S:Stt} {X:Tx} {h:Go.Ev.H} (R:RsE n a b c d md S X [] L h)=>Zzd Hh fb R see0 other
    obtain⟨W1,hW1⟩:∃ w,gI a b c d (U0 d) ino=w:=⟨_,rfl⟩
    obtain⟨W2,hW2⟩:∃ w,gI a b c d (U0 d) other=w:=⟨_,rfl⟩
    obtain⟨w1,e1⟩:=W1
    obtain⟨w2,e2⟩:=W2
    simp only[hW1] at hG1 q1 w1l
    simp only[hW2] at hG2 q2 w2l
    obtain⟨h8,c8,r8⟩:=hG1 MB.rs
    have M8:=MB.rd r8
    refine Goes.Zq Z8z ?_
    refine Goes.Zw Z2a fits Hh (Z8 Zb c8) (by
     simp (maxSteps:=9^6) +decide (disch:=first|omega|(simp only[lens]<;>omega)|decide) only [go_sem,q3,Tryz.f3,Za,simprocAttr,Yo,w1l,w2l,read1]
     rfl) ?_
    refine Goes.Zq Z0h ?_
    refine Goes.abs fun hC eC=>?_
    have nC:hC.next=h8.next+1:=by rw[eC]; simp only[H.Zg,H.Ze]
    have kC:∀ m,m<h8.next→hC.get m=h8.get m:=fun m hm=>by rw[eC]; (first|(simp (discharger:=omega) only [H.get_put,H.Zh,H.Zk,H.Ze,H.Zg,H.Zj,if_neg]; done)|(simp only[H.get_put,H.Zh,H.Zk,H.Ze,H.Zg,H.Zj]; (repeat' split)<;>first|rfl|(exfalso; omega)|omega))
    have a11:hC.get h8.next=some (.row 16 [w1] false):=by rw[eC]; simp (maxSteps:=9^6) +decide (disch:=first|omega|(simp only[lens]<;>omega)|decide) only [go_sem,Za,simprocAttr,w1l]<;>rfl
    clear eC
    have ks8:Ks n hB hC:=r8.ks.then (.of (by omega) kC)
    have n8:=r8.1
    have MC:=M8.keep (h2:=hC) (by omega) (fun m hm=>kC m (by omega))
    obtain⟨h9,c9,r9⟩:=hG2 MC.rs
    have M9:=MC.rd r9
    have n9:=r9.1
    refine Goes.Zw Zyv fits Hh (Z8 Zb c9) (by
     simp (maxSteps:=9^6) +decide (disch:=first|omega|(simp only[lens]<;>omega)|decide) only [go_sem,q3,Tryz.f3,Za,simprocAttr,Yo,w1l,w2l,read1]
     rfl) ?_
    refine Goes.abs fun hD eD=>?_
    have nD:hD.next=h9.next+1:=by rw[eD]; simp only[H.Zg,H.Ze]
    have kD:∀ m,m<h9.next→hD.get m=h9.get m:=fun m hm=>by rw[eD]; (first|(simp (discharger:=omega) only [H.get_put,H.Zh,H.Zk,H.Ze,H.Zg,H.Zj,if_neg]; done)|(simp only[H.get_put,H.Zh,H.Zk,H.Ze,H.Zg,H.Zj]; (repeat' split)<;>first|rfl|(exfalso; omega)|omega))
    have b13:hD.get h9.next=some (.row 16 [w2] false):=by rw[eD]; simp (maxSteps:=9^6) +decide (disch:=first|omega|(simp only[lens]<;>omega)|decide) only [go_sem,Za,simprocAttr,w2l]<;>rfl
    clear eD
    have ks9:Ks n hC hD:=r9.ks.then (.of (by omega) kD)
    have MD:=M9.keep (h2:=hD) (by omega) (fun m hm=>kD m (by omega))
    have b11:=(ks9.2 h8.next (by omega) (by omega)).trans a11
    have ksD:=ks8.then ks9
    have yD:=(ksD.2 (h.next+1) (by omega) (by omega)).trans yB
    have vD:=(ksD.2 (n+29) (by omega) (by omega)).trans vB
    obtain⟨h10,r,kn',lt,lc,U,c10,M10,see1,ks10,hr,ho⟩:=hP fb I MD
    have n10:=ks10.1
    have q4:=eqG a b c d U other
    have w3l:=Zqv a b c d U ino
    have w4l:=Zqv a b c d U other
    obtain⟨h11,c11,r11⟩:=Zzd Hh fb M10.rs see1 ino
    have hG4:=fun {S:Stt} {X:Tx} {h:Go.Ev.H} (R:RsE n a b c d md S X lc L h)=>Zzd Hh fb R see1 other
    have M11:=M10.rd r11
    have n11:=r11.1
    rw[hW1] at hr
    have ho:=ho other
    rw[hW2] at ho
    have e13:(gI a b c d U ino).2=e1:=by rcases hr with ⟨_,x1,x2⟩|⟨_,x2⟩<;>rw[x2]; exact x1.symm
    have e24:(gI a b c d U other).2=e2:=by
     by_cases io:ino=other
     ·subst io; rw[e13]; rw[hW1] at hW2; cases hW2; rfl
     ·rw[ho io]
    obtain⟨W3,hW3⟩:∃ w,gI a b c d U ino=w:=⟨_,rfl⟩
    obtain⟨W4,hW4⟩:∃ w,gI a b c d U other=w:=⟨_,rfl⟩
    obtain⟨w3,e3⟩:=W3
    obtain⟨w4,e4⟩:=W4
    simp only[hW3] at c11 w3l hr e13
    simp only[hW4] at hG4 ho e24 q4 w4l
    obtain rfl:e3=e1:=e13
    obtain rfl:e4=e2:=e24
    have hcs:(r=0∧e3=0∧w3=y)∨(r=2∧w3=w1)∨(r=70∧w3=w1):=by
     rcases hr with ⟨x1,x2,x3⟩|⟨x1|x1,x3⟩
     ·cases x3; exact .inl ⟨x1,rfl,rfl⟩
     ·cases x3; exact .inr (.inl ⟨x1,rfl⟩)
     ·cases x3; exact .inr (.inr ⟨x1,rfl⟩)
    have hoo:(ino != other)=false∨(ino != other)=true∧w4=w2:=by
     by_cases io:ino=other
     ·exact .inl (by rw[io,bne_self_eq_false])
     ·have x:=ho io
      cases x
      exact .inr ⟨by rw[bne,beq_eq_false_iff_ne.2 io]; rfl,rfl⟩
    clear hr ho hW1 hW2 hW3 hW4
    rcases hoo with hio|⟨hio,rfl⟩
    all_goals rcases hcs with ⟨rfl,rfl,rfl⟩|⟨rfl,rfl⟩|⟨rfl,rfl⟩
    all_goals
     refine Goes.Zq Zwi ?_
     refine Goes.Zw Zuc fits Hh (Z8 Zb c10) (by
      simp (maxSteps:=9^6) +decide (disch:=first|omega|(simp only[lens]<;>omega)|decide) only [go_sem,q3,Tryz.f3,Za,simprocAttr,Yo,yD,yl,qy,q1,q2,w1l,w2l,w3l,w4l,hio,bne_self_eq_false,beq_self_eq_true,read1]
      rfl) ?_
     refine Goes.Zq Zsu ?_
     refine Goes.Zw Zqf fits Hh (Z8 Zb c11) (by
      simp (maxSteps:=9^6) +decide (disch:=first|omega|(simp only[lens]<;>omega)|decide) only [go_sem,q3,Tryz.f3,Za,simprocAttr,Yo,yD,yl,qy,q1,q2,w1l,w2l,w3l,w4l,hio,bne_self_eq_false,beq_self_eq_true,read1]
      rfl) ?_
     refine Goes.Zq Zo5 ?_
     refine Goes.abs fun hF eF=>?_
     have nF:hF.next=h11.next+1:=by rw[eF]; simp only[H.Zg,H.Ze]
     have kF:∀ m,m<h11.next→hF.get m=h11.get m:=fun m hm=>by rw[eF]; (first|(simp (discharger:=omega) only [H.get_put,H.Zh,H.Zk,H.Ze,H.Zg,H.Zj,if_neg]; done)|(simp only[H.get_put,H.Zh,H.Zk,H.Ze,H.Zg,H.Zj]; (repeat' split)<;>first|rfl|(exfalso; omega)|omega))
     have b16:hF.get h11.next=some (.row 16 [w3] false):=by rw[eF]; simp (maxSteps:=9^6) +decide (disch:=first|omega|(simp only[lens]<;>omega)|decide) only [go_sem,Za,simprocAttr,w3l]<;>rfl
     clear eF
     have ksF:Ks n h10 hF:=r11.ks.then (.of (by omega) kF)
     have MF:=M11.keep (h2:=hF) (by omega) (fun m hm=>kF m (by omega))
     obtain⟨h12,c12,r12⟩:=hG4 MF.rs
     have M12:=MF.rd r12
     have n12:=r12.1
     refine Goes.Zw Zm8 fits Hh (Z8 Zb c12) (by
      simp (maxSteps:=9^6) +decide (disch:=first|omega|(simp only[lens]<;>omega)|decide) only [go_sem,q3,Tryz.f3,Za,simprocAttr,Yo,yD,yl,qy,q1,q2,w1l,w2l,w3l,w4l,hio,bne_self_eq_false,beq_self_eq_true,read1]
      rfl) ?_
     refine Goes.Zq Zmq ?_
     refine Goes.Zq Zko ?_
     refine Goes.abs fun hG eG=>?_
     have nG:hG.next=h12.next+1:=by rw[eG]; simp only[H.Zg,H.Ze]
     have kG:∀ m,m<h12.next→hG.get m=h12.get m:=fun m hm=>by rw[eG]; (first|(simp (discharger:=omega) only [H.get_put,H.Zh,H.Zk,H.Ze,H.Zg,H.Zj,if_neg]; done)|(simp only[H.get_put,H.Zh,H.Zk,H.Ze,H.Zg,H.Zj]; (repeat' split)<;>first|rfl|(exfalso; omega)|omega))
     have b18:hG.get h12.next=some (.row 16 [w4] false):=by rw[eG]; simp (maxSteps:=9^6) +decide (disch:=first|omega|(simp only[lens]<;>omega)|decide) only [go_sem,Za,simprocAttr,w4l]<;>rfl
     clear eG
     have ksG:Ks n hF hG:=r12.ks.then (.of (by omega) kG)
     have MG:=M12.keep (h2:=hG) (by omega) (fun m hm=>kG m (by omega))
     have g16:=(ksG.2 h11.next (by omega) (by omega)).trans b16
     have ksX:=(ks10.then ksF).then ksG
     have g7:=(ksX.2 (h.next+1) (by omega) (by omega)).trans yD
     have g11:=(ksX.2 h8.next (by omega) (by omega)).trans b11
     have g13:=(ksX.2 h9.next (by omega) (by omega)).trans b13
     have vG:=(ksX.2 (n+29) (by omega) (by omega)).trans vD
     obtain⟨h17,S',X',c17,R17,n17,k17⟩:=Yax Hh fb MG.rs rfl rfl rfl rfl rfl vG (by omega) (by omega) (show n+20≠n+13 by omega)
     have ks17:Ks n hG h17:=⟨n17,fun m hm q=>k17 m hm (by omega) (show m≠n+20 by omega)⟩
     have u16:=(ks17.2 h11.next (by omega) (by omega)).trans g16
     have u11:=(ks17.2 h8.next (by omega) (by omega)).trans g11
     obtain⟨h19,c19,r19⟩:=hG1 R17
     have n19:=r19.1
     have x16:=(r19.ks.2 h11.next (by omega) (by omega)).trans u16
     have x11:=(r19.ks.2 h8.next (by omega) (by omega)).trans u11
     refine Goes.Zw Zh9 fits Hh Zb (by
      simp only[q3,Tryz.f3,piece,part0,part1,part2,Yh,part3,part4,part5,part6,Z5,Zt]
      iterate 30 (refine Fb (by simp (maxSteps:=9^6) +decide (disch:=first|omega|(simp only[lens]<;>omega)|decide) only [go_sem,Za,simprocAttr,yD,yl,qy,q1,q2,w1l,w2l,w3l,w4l,hio,bne_self_eq_false,beq_self_eq_true,g16,g7,g11,g13,b18,read1]<;>rfl) ?_)
      exact Fh) ?_
     refine Goes.Yy Zhw (by simp (maxSteps:=9^6) +decide (disch:=first|omega|(simp only[lens]<;>omega)|decide) only [go_sem,Za,simprocAttr,yD,yl,qy,q1,q2,w1l,w2l,w3l,w4l,hio,bne_self_eq_false,beq_self_eq_true,g16,g7,g11,g13,b18,read1]<;>rfl) (by first|rfl|assumption|exact decide_eq_false (by omega)|(simp; omega)) ?_
     refine Goes.Jc Zgm ?_
     refine Goes.Zq Zmd ?_
     refine Goes.Zq Zhz ?_
     refine Goes.Zw Zfu fits Hh Zb (by
      simp (maxSteps:=9^6) +decide (disch:=first|omega|(simp only[lens]<;>omega)|decide) only [go_sem,q3,Tryz.f3,Za,simprocAttr,yD,yl,qy,q1,q2,w1l,w2l,w3l,w4l,hio,bne_self_eq_false,beq_self_eq_true,g16,g7,g11,g13,b18,read1]
      rfl) ?_
     refine Goes.Yy Zfn (by simp (maxSteps:=9^6) +decide (disch:=first|omega|(simp only[lens]<;>omega)|decide) only [go_sem,Za,simprocAttr,yD,yl,qy,q1,q2,w1l,w2l,w3l,w4l,hio,bne_self_eq_false,beq_self_eq_true,g16,g7,g11,g13,b18,read1]<;>rfl) (by first|rfl|assumption|exact decide_eq_false (by omega)|(simp; omega)) ?_
     refine Goes.Jc Ze0 ?_
     refine Goes.Zq Zh2 ?_
     refine Goes.Zq Zf1 ?_
     refine Goes.Zw Zeu fits Hh (Z8 Zb c17) (by
      simp (maxSteps:=9^6) +decide (disch:=first|omega|(simp only[lens]<;>omega)|decide) only [go_sem,q3,Tryz.f3,Za,simprocAttr,Yo,yD,yl,qy,q1,q2,w1l,w2l,w3l,w4l,hio,bne_self_eq_false,beq_self_eq_true,g16,g7,g11,g13,b18,read1]
      rfl) ?_
     refine Goes.Yy Zfi (by simp (maxSteps:=9^6) +decide (disch:=first|omega|(simp only[lens]<;>omega)|decide) only [go_sem,Za,simprocAttr,yD,yl,qy,q1,q2,w1l,w2l,w3l,w4l,hio,bne_self_eq_false,beq_self_eq_true,g16,g7,g11,g13,b18,read1]<;>rfl) (by first|rfl|assumption|exact decide_eq_false (by omega)|(simp; omega)) ?_
     refine Goes.Jc Zct ?_
     refine Goes.Zq Zf8 ?_
     refine Goes.Zw Zei fits Hh (Z8 Zb c19) (by
      simp (maxSteps:=9^6) +decide (disch:=first|omega|(simp only[lens]<;>omega)|decide) only [go_sem,q3,Tryz.f3,Za,simprocAttr,Yo,yD,yl,qy,q1,q2,w1l,w2l,w3l,w4l,hio,bne_self_eq_false,beq_self_eq_true,g16,g7,g11,g13,b18,x16,x11,read1]
      rfl) ?_
     refine Goes.Zq Zdp ?_
     refine Goes.Zw Zcn fits Hh Zb (by
      simp (maxSteps:=9^6) +decide (disch:=first|omega|(simp only[lens]<;>omega)|decide) only [go_sem,q3,Tryz.f3,Za,simprocAttr,yD,yl,qy,q1,q2,w1l,w2l,w3l,w4l,hio,bne_self_eq_false,beq_self_eq_true,g16,g7,g11,g13,b18,x16,x11,read1]
      rfl) ?_
     refine Goes.Gl Zcr ?_
     exact⟨_,_,(by simp (maxSteps:=9^6) +decide (disch:=first|omega|(simp only[lens]<;>omega)|decide) only [go_sem,Za,simprocAttr]<;>rfl),rfl⟩
 exact⟨h',cc⟩
end
end Go.Proofs.YtmdibcklpmeleaaGreatDoor
set_option maxRecDepth 100000
namespace Go.Proofs.YtmdibcklpmeleaaGreatDoor
open Go.Ev Go.ChangeShapes Go.WideShapes
def Zqs (v:Value):Prop:=v=.slice none 0 0∨∃ b o sp len cap,v=.slice (some ⟨b,o,sp⟩) len cap∧len≤cap∧(cap=0∨sp=none)
theorem Zyq {H:Type} {enc:TypeId × Value→H} {W:World} {fuel:Nat} {cs:List Value} {x:DataW H × List MemPlace} (h:DataW.trod enc Tryz.prog W 0 (fun _=>true) true fuel 24 cs=some x):∃ v,cs=[v]∧Zqs v:=by
 rcases DataW.trod_slice Tryz.underlying24 h with ⟨h0,_⟩|⟨⟨b,o,sp⟩,len,cap,elems,rest,n,rfl,rfl,_,_,hl,_,hlen,hel,hsp,_⟩
 ·exact⟨_,h0,.inl rfl⟩
 refine⟨_,rfl,.inr ⟨b,o,sp,len,cap,rfl,hl,?_⟩⟩
 rcases Nat.eq_zero_or_pos cap with c0|c0
 ·exact .inl c0
 right
 have c2:Tryz.prog.cellsOf 336=3:=by kernel_rfl
 obtain⟨hrl,hr⟩:=hsp rfl
 rw[c2] at hel hr
 have key:∃ y,(W.cells? 0 ((⟨b,o,sp⟩:Addr).add (0 * 3)) 3).bind (DataW.trod enc Tryz.prog W 0 (fun _=>true) true n 336)=some y:=by
  by_cases h1:0<len
  ·exact⟨_,(hel 0 h1).trans (List.getElem?_eq_getElem (by omega))⟩
  ·have:=hr (0 - len) (by omega)
   rw[show len+(0 - len)=0 by omega] at this
   exact⟨_,this.trans (List.getElem?_eq_getElem (by omega))⟩
 obtain⟨y,hy⟩:=key
 obtain⟨cs',h1,h2⟩:=Option.bind_eq_some_iff.1 hy
 obtain⟨hl2,hc⟩:=Z09 h1
 have q0:=hc 0 (by omega)
 rw[List.getElem?_eq_getElem (by omega)] at q0
 have:=World.cell?_spot q0
 simpa [Addr.add] using this
theorem Zvm {H:Type} {enc:TypeId × Value→H} {W:World} {base b0:Nat} {r:Reach} {v:Value} {d:DataW H} {p:List MemPlace} (hv:Value.okWide Tryz.prog W r b0 26 v) (h:DataW.Trod enc Tryz.prog W base (fun _=>true) true 26 v d p) (hb:base=0):∃ (a b c e md:Int) (v5:Value),v=.agg #[.int .i64 a,.int .i64 b,.int .i64 c,.int .i64 e,.int .u8 md,v5]∧Zqs v5:=by
 subst hb
 obtain⟨cs,rfl,_⟩:=okWide_struct Tryz.underlying26 hv
 obtain⟨fuel,hf0⟩:=h
 have hf:DataW.trod enc Tryz.prog W 0 (fun _=>true) true fuel 26 cs.toList=_:=hf0
 obtain⟨Lc,hLc⟩:∃ l,cs.toList=l:=⟨_,rfl⟩
 rw[hLc] at hf
 obtain⟨xs,m,_,_,hl,hlen,hfl⟩:=DataW.trod_struct Tryz.underlying26 hf
 have xl:xs.length=3:=hlen
 have c6:Tryz.prog.cellsOf 26=6:=by kernel_rfl
 have cg:Tryz.prog.cellsOf 23=4:=by kernel_rfl
 have cb:Tryz.prog.cellsOf 5=1:=by kernel_rfl
 have ct:Tryz.prog.cellsOf 24=1:=by kernel_rfl
 have k0:=hfl 0 _ rfl
 have k1:=hfl 1 _ rfl
 have k2:=hfl 2 _ rfl
 rw[List.getElem?_eq_getElem (by omega)] at k0 k1 k2
 have l6:Lc.length=6:=hl.trans c6
 match Lc,l6 with
 | [u0,u1,u2,u3,u4,u5],_ =>
  have e0:(([u0,u1,u2,u3,u4,u5]:List Value).drop 0).take (Tryz.prog.cellsOf 23)=[u0,u1,u2,u3]:=by rw[cg]; rfl
  have e1:(([u0,u1,u2,u3,u4,u5]:List Value).drop 4).take (Tryz.prog.cellsOf 5)=[u4]:=by rw[cb]; rfl
  have e2:(([u0,u1,u2,u3,u4,u5]:List Value).drop 5).take (Tryz.prog.cellsOf 24)=[u5]:=by rw[ct]; rfl
  have k0':DataW.trod enc Tryz.prog W 0 (fun _=>true) true m 23 [u0,u1,u2,u3]=_:=e0 ▸ k0
  have k1':DataW.trod enc Tryz.prog W 0 (fun _=>true) true m 5 [u4]=_:=e1 ▸ k1
  have k2':DataW.trod enc Tryz.prog W 0 (fun _=>true) true m 24 [u5]=_:=e2 ▸ k2
  obtain⟨⟨z0,rfl,_⟩,⟨z1,rfl,_⟩,⟨z2,rfl,_⟩,⟨z3,rfl,_⟩,_⟩:=Zai 8 (show kinds Tryz.prog 8 23=some [.int .i64,.int .i64,.int .i64,.int .i64] by kernel_rfl) k0'
  obtain⟨⟨z4,rfl,_⟩,_⟩:=Zai 8 (show kinds Tryz.prog 8 5=some [.int .u8] by kernel_rfl) k1'
  obtain⟨v5,e5,ok⟩:=Zyq k2'
  cases e5
  exact⟨z0,z1,z2,z3,z4,_,by congr 1; rw[←Array.toList_inj,hLc],ok⟩
noncomputable def Ycy:Go.Ev.H:=⟨Zat.m,2⟩
def Ztt (l:Go.Ev.Loc):Go.Ev.Ren:=fun n=>if n=1 then some l else if n=0 then some ⟨0,0,16⟩ else none
theorem Zk9 (l:Go.Ev.Loc):Dom (Ztt l) 2:=fun n hn=>by
 unfold Ztt
 rw[if_neg (by omega),if_neg (by omega)]
theorem Zpr {W:World} {cs:Array Value} {t:TypeId} {fr:Nat × Nat} (hb:W.heap[0]? = some (.cells cs t fr)) (hcs:cs.toList=steps16.map (Value.int .u32)) (l:Go.Ev.Loc):Rep K (Ztt l) Ycy W:=by
 have R:=Zfp gl hb hcs
 refine⟨fun g n h=>?_,fun n o h=>?_,fun n n' o o' l l' hne h h' _ _=>?_⟩
 ·obtain⟨rfl,rfl⟩:=Q5 gl h
  exact⟨16,rfl⟩
 ·obtain⟨l0,hl0,hor⟩:=R.obj n o h
  obtain⟨rfl,rfl⟩:=Bd h
  refine⟨l0,hl0,?_⟩
  have hs:(O.row 16 [steps16.map (C.int .u32)] true).simple=true:=rfl
  have:=(Vb (σ:=fun n=>n) (ρ:=fun n=>if n=0 then Ztt l 0 else none) (w:=W) hs l0)
  exact (Vb (σ:=fun _=>0) (ρ:=Ztt l) (w:=W) hs l0).2 ((Vb (σ:=fun _=>0) (ρ:=Te 0) (w:=W) hs l0).1 hor)
 ·obtain⟨rfl,_⟩:=Bd h
  obtain⟨rfl,_⟩:=Bd h'
  exact absurd rfl hne
theorem Yik:Ud K 24 (.c .snil)=true:=by kernel_rfl
theorem Yga (p o l:Nat):Ud K 24 (.c (.slice p o l 3))=true:=by kernel_rfl
theorem Yij (h:Go.Ev.H):Yz K h 24 (.c .snil)=some (.int .i64 ((0:Nat):Int)):=rfl
theorem Ygu (p o l:Nat) (h:Go.Ev.H):Yz K h 24 (.c (.slice p o l 3))=some (.int .i64 (l:Int)):=rfl
theorem wf_u32 {n:Int} (h:(Lit.int .u32 n).wf=true):0≤n∧n<4294967296:=by
 simp [Lit.wf,IntKind.min,IntKind.max,IntKind.signed,IntKind.bits] at h
 omega
section
variable (Hh:Hearts K Tryz.prog)
include Hh
theorem Z33 {W:World} {cs:Array Value} {t:TypeId} {fr:Nat × Nat} (hb:W.heap[0]? = some (.cells cs t fr)) (hcs:cs.toList=steps16.map (Value.int .u32)) (a b c d md ino other:Int) {v5:Value} (ok:Zqs v5) (k l g s p0 p1 p2 p3 p4 p5 p6 p7 p8 p9 p10 nx:Int) (w2:(Lit.int .u32 g).wf=true) (w4:(Lit.int .u32 p0).wf=true) (w5:(Lit.int .u32 p1).wf=true) (w6:(Lit.int .u32 p2).wf=true) (w7:(Lit.int .u32 p3).wf=true) (w8:(Lit.int .u32 p4).wf=true) (w9:(Lit.int .u32 p5).wf=true) (w10:(Lit.int .u32 p6).wf=true) (w11:(Lit.int .u32 p7).wf=true) (w12:(Lit.int .u32 p8).wf=true) (w13:(Lit.int .u32 p9).wf=true) (w14:(Lit.int .u32 p10).wf=true) (w15:(Lit.int .u32 nx).wf=true) :
  Calls Tryz.prog 3 #[.agg #[.int .i64 a,.int .i64 b,.int .i64 c,.int .i64 d,.int .u8 md,v5],.int .i64 ino,.int .i64 other,.agg #[.int .u8 k,.int .i64 l,.int .u32 g,.int .i64 s,.int .u32 p0,.int .u32 p1,.int .u32 p2,.int .u32 p3,.int .u32 p4,.int .u32 p5,.int .u32 p6,.int .u32 p7,.int .u32 p8,.int .u32 p9,.int .u32 p10,.int .u32 nx]] W fun e W'=>e=.returned (.bool true)∧Go.RowKit.Below W.heap.size W W':=by
 have h0:Ycy.get 0=some Bz:=rfl
 have ro:∀ n o,Ycy.get n=some o→o.ro=true:=fun n o e=>by rw[(Bd e).2]; rfl
 have pb:∀ v∈[p0,p1,p2,p3,p4,p5,p6,p7,p8,p9,p10],0≤v∧v<4294967296:=fun v hv=>by
  simp only[List.mem_cons,List.not_mem_nil,or_false] at hv
  rcases hv with rfl|rfl|rfl|rfl|rfl|rfl|rfl|rfl|rfl|rfl|rfl<;>exact wf_u32 (by assumption)
 have law:=fun {S:C} {len:Int} (lf:Ud K 24 (.c S)=true) (hln:∀ h,Yz K h 24 (.c S)=some (.int .i64 len)) (l1:0≤len)=>Yah Hh lf hln l1 (h:=Ycy) h0 (by show 0<2; omega) a b c d md ino other (k:=k) (l:=l) (s:=s) (wf_u32 w2) pb (wf_u32 w15)
 rcases ok with rfl|⟨bk,o,sp,len,cap,rfl,hlc,hc⟩
 ·obtain⟨h',cc⟩:=law (S:=.snil) Yik Yij (by omega)
  exact Xu (ρ:=Ztt ⟨0,0,0⟩) (vals:=[.agg #[.int .i64 a,.int .i64 b,.int .i64 c,.int .i64 d,.int .u8 md,.slice none 0 0],.int .i64 ino,.int .i64 other,.agg #[.int .u8 k,.int .i64 l,.int .u32 g,.int .i64 s,.int .u32 p0,.int .u32 p1,.int .u32 p2,.int .u32 p3,.int .u32 p4,.int .u32 p5,.int .u32 p6,.int .u32 p7,.int .u32 p8,.int .u32 p9,.int .u32 p10,.int .u32 nx]]) (Zpr hb hcs _) (Zk9 _) ro cc
   ⟨⟨_,rfl,rfl,rfl,rfl,rfl,rfl,rfl,trivial⟩,rfl,rfl,⟨_,rfl,rfl,rfl,rfl,rfl,rfl,rfl,rfl,rfl,rfl,rfl,rfl,rfl,rfl,rfl,rfl,rfl,trivial⟩,trivial⟩
 ·rcases hc with c0|rfl
  ·subst c0
   obtain rfl:len=0:=by omega
   obtain⟨h',cc⟩:=law (S:=.slice 1 0 0 3) (Yga 1 0 0) (Ygu 1 0 0) (by omega)
   exact Xu (ρ:=Ztt ⟨0,0,0⟩) (vals:=[.agg #[.int .i64 a,.int .i64 b,.int .i64 c,.int .i64 d,.int .u8 md,.slice (some ⟨bk,o,sp⟩) 0 0],.int .i64 ino,.int .i64 other,.agg #[.int .u8 k,.int .i64 l,.int .u32 g,.int .i64 s,.int .u32 p0,.int .u32 p1,.int .u32 p2,.int .u32 p3,.int .u32 p4,.int .u32 p5,.int .u32 p6,.int .u32 p7,.int .u32 p8,.int .u32 p9,.int .u32 p10,.int .u32 nx]]) (Zpr hb hcs _) (Zk9 _) ro cc
    ⟨⟨_,rfl,rfl,rfl,rfl,rfl,rfl,⟨⟨0,0,0⟩,_,_,rfl,rfl,.inl ⟨rfl,rfl⟩⟩,trivial⟩,rfl,rfl,⟨_,rfl,rfl,rfl,rfl,rfl,rfl,rfl,rfl,rfl,rfl,rfl,rfl,rfl,rfl,rfl,rfl,rfl,trivial⟩,trivial⟩
  ·obtain⟨h',cc⟩:=law (S:=.slice 1 0 len 3) (Yga 1 0 len) (Ygu 1 0 len) (by omega)
   exact Xu (ρ:=Ztt ⟨bk,o,o+cap * 3⟩) (vals:=[.agg #[.int .i64 a,.int .i64 b,.int .i64 c,.int .i64 d,.int .u8 md,.slice (some ⟨bk,o,none⟩) len cap],.int .i64 ino,.int .i64 other,.agg #[.int .u8 k,.int .i64 l,.int .u32 g,.int .i64 s,.int .u32 p0,.int .u32 p1,.int .u32 p2,.int .u32 p3,.int .u32 p4,.int .u32 p5,.int .u32 p6,.int .u32 p7,.int .u32 p8,.int .u32 p9,.int .u32 p10,.int .u32 nx]]) (Zpr hb hcs _) (Zk9 _) ro cc
    ⟨⟨_,rfl,rfl,rfl,rfl,rfl,rfl,⟨⟨bk,o,o+cap * 3⟩,_,_,rfl,rfl,.inr ⟨rfl,hlc,by show o+0+cap * 3≤o+cap * 3; omega⟩⟩,trivial⟩,rfl,rfl,⟨_,rfl,rfl,rfl,rfl,rfl,rfl,rfl,rfl,rfl,rfl,rfl,rfl,rfl,rfl,rfl,rfl,rfl,trivial⟩,trivial⟩
end
end Go.Proofs.YtmdibcklpmeleaaGreatDoor
