/- InodesUndone, from its parts. -/
import Derived.Test.YtngejdlimkgjfaaGreatDoorLua
import Derived.Test.YtngejdlimkgjfaaGreatDoorClo
import Derived.Test.YtngejdlimkgjfaaGreatDoorFit
import Derived.Test.YtngejdlimkgjfaaGreatDoorAw24
import Derived.Test.YtngejdlimkgjfaaGreatDoorEvC
set_option linter.unusedSimpArgs false
set_option linter.unusedVariables false
set_option linter.unusedSectionVars false
set_option maxRecDepth 100000
set_option maxHeartbeats 4000000
namespace Go.Proofs.YtngejdlimkgjfaaGreatDoor
open Go.Ev
noncomputable def q3 (p:List Nat):Code:=piece p (Yc Tryz.f3)
theorem rs3:Tryz.f3.results.toList=[.tmp 6]:=rfl
attribute [go_sem] rs3
theorem Zxj (p o l:Nat):Un K 36 (.c (.slice p o l 256))=true:=by kernel_rfl
theorem Z4q {x:List C} (xl:x.length=256) (xi:x.all Zc1=true):eqT K 20 47 (.g x) (.g x)=some true:=by
 rw[eq47,Zes xi,Znw xl]
 rfl
section
variable (Hh:Hearts K Tryz.prog)
include Hh
theorem Zx4 {a b c e N p p2:Nat} {L:List (List C)} (im:imB L=true) (bi:Zqm L=true) (N1:N<4096) (h:Go.Ev.H) (hp:h.get p=some (.row 256 (Na a b c e L N N) false)) (hp2:h.get p2=some (.row 256 (Na a b c e L N N) false)):∀ (k i:Nat) (ts:Zx),i+k=N→Zq ts 9=.w (.c (.slice p 0 N 256))→Zq ts 14=.w (.c (.slice p2 0 N 256))→Zq ts 16=.w (.c (.int .i64 (i:Int))) →
  Goes K Tryz.prog 108 none (q3 [1,1,1,1,1,1,1,1,1,1,1,1,1,0,1,2]) [] ts h fun x ds' ts' h'=>x=.exit 0∧ds'=[]∧h'=h:=by
 have lf:=Zxj
 intro k
 induction k with
 | zero =>
  intro i ts hi t9 t14 t16
  obtain rfl:i=N:=by omega
  iterate 6 (first|apply Goes.seq|apply Goes.exit|apply Goes.loop|((first|apply Goes.Zr|apply Goes.ops2 fits Hh Zc); · simp (maxSteps:=9^6) +decide (disch:=first|omega|(simp only[lens]<;>omega)|decide) only [go_sem,Zf,Za,simprocAttr,t9,t14,t16,lf,Zt,Y8]<;>rfl))
  exact⟨rfl,rfl,rfl⟩
 | succ k ih =>
  intro i ts hi t9 t14 t16
  have iN:i<N:=by omega
  have rd:Zf 256 (Na a b c e L N N) (i * 256) 256=some (Zeb a b c e L i):=Zgf (by omega) (Zvp iN) (Zs6 im i)
  have xl:=Zs6 (a:=a) (b:=b) (c:=c) (e:=e) im i
  have xe:=Z4q xl (Zzo (a:=a) (b:=b) (c:=c) (e:=e) bi i)
  obtain⟨A,hA⟩:∃ A,Na a b c e L N N=A:=⟨_,rfl⟩
  obtain⟨B,hB⟩:∃ B,Zeb a b c e L i=B:=⟨_,rfl⟩
  rw[hB] at rd xl xe
  rw[hA] at rd hp hp2
  rw[eq47,Znw xl] at xe
  simp only[Bool.and_self,cond_true] at xe
  iterate 13 (first|apply Goes.seq|apply Goes.skip|apply Goes.block|apply Goes.loop|((first|apply Goes.Zr|apply Goes.ops2 fits Hh Zc); · simp (maxSteps:=9^6) +decide (disch:=first|omega|(simp only[lens]<;>omega)|decide) only [go_sem,Za,simprocAttr,t9,t14,t16,lf,hp,hp2,rd,xl,xe,Zt,Y8]<;>rfl)|(apply Goes.drawn2 fits Hh Zc (by kernel_rfl); · simp (maxSteps:=9^6) +decide (disch:=first|omega|(simp only[lens]<;>omega)|decide) only [go_sem,Za,simprocAttr,Js,Y2,Jd,Jo,Yv,Jp,Jf,Ye,Ja,Jr,Ux,Jg,Ya,Ym,Yh,Yg,Je,Yt,Y0,Yd,Yu,Jb,Oy,U8,Oj,Ee,Ep,Ue,Ug,Jn,Om,Uj,Ur,Jq,Y1,Uo,looks,O5,Op.operands,Call.operands,kd,Ud,List.filterMap_cons,List.filterMap_nil,List.append_nil,List.nil_append,List.cons_append,Ji,stable,Jl,J4,Jt,waits,Yr,List.all_cons,List.all_nil,List.any_cons,List.any_nil,Region.binds,Bool.or_true,Bool.true_or,Bool.and_true,Bool.true_and,Bool.or_false,Bool.false_or,Bool.and_self,Bool.or_self,Jc,Nat.le_refl,Nat.le_add_right,List.map_cons,Array.toList_append,t9,t14,t16,lf,hp,hp2,rd,xl,xe,Zt,Y8]<;>rfl))
  show Goes K Tryz.prog 108 none (q3 [1,1,1,1,1,1,1,1,1,1,1,1,1,0,1,2]) _ _ _ _
  refine ih (i+1) _ (by omega) ?_ ?_ ?_
  ·simp (maxSteps:=9^6) +decide (disch:=first|omega|(simp only[lens]<;>omega)|decide) only [go_sem,Zf,Za,simprocAttr,t9]
  ·simp (maxSteps:=9^6) +decide (disch:=first|omega|(simp only[lens]<;>omega)|decide) only [go_sem,Zf,Za,simprocAttr,t14]
  ·simp (maxSteps:=9^6) +decide (disch:=first|omega|(simp only[lens]<;>omega)|decide) only [go_sem,Zf,Za,simprocAttr]<;>rfl
theorem Zuq {S:C} {len:Int} (lf:Un K 24 (.c S)=true) (hln:∀ h,Y8 K h 24 (.c S)=some (.int .i64 len)) (l1:0≤len) {h:Go.Ev.H} (hst:h.get 0=some O1) (l0:0<h.next) (a b c d md ino:Int) {k l g s p0 p1 p2 p3 p4 p5 p6 p7 p8 p9 p10 nx:Int} (gb:0≤g∧g<4294967296) (pb:∀ v∈[p0,p1,p2,p3,p4,p5,p6,p7,p8,p9,p10],0≤v∧v<4294967296) (nb:0≤nx∧nx<4294967296) :
  ∃ h',Ze K Tryz.prog 3 [.g [.int .i64 a,.int .i64 b,.int .i64 c,.int .i64 d,.int .u8 md,S],.c (.int .i64 ino),.g (Gw k l g s p0 p1 p2 p3 p4 p5 p6 p7 p8 p9 p10 nx)] h (.w (.c (.bool true))) h':=by
 have cf:=fun h=>Z3u Hh lf hln a b c d md h
 have r6:Zf 6 [[.int .i64 a,.int .i64 b,.int .i64 c,.int .i64 d,.int .u8 md,S]] 0 6=some [.int .i64 a,.int .i64 b,.int .i64 c,.int .i64 d,.int .u8 md,S]:=rfl
 have r4:Zf 6 [[.int .i64 a,.int .i64 b,.int .i64 c,.int .i64 d,.int .u8 md,S]] 0 4=some [.int .i64 a,.int .i64 b,.int .i64 c,.int .i64 d]:=rfl
 have yl:(Gw k l g s p0 p1 p2 p3 p4 p5 p6 p7 p8 p9 p10 nx).length=16:=rfl
 have lfb:=Zxj
 have hP:=fun {n a b c d:Nat} {md:Int} {L:List (List C)} {h:Go.Ev.H} (f:Jm a b c d=true) (I:Image a b c d L) (M:ClE n a b c d md L h)=>Zrx Hh f I M ino (k:=k) (l:=l) (s:=s) gb pb nb
 obtain⟨y,hy⟩:∃ y,Gw k l g s p0 p1 p2 p3 p4 p5 p6 p7 p8 p9 p10 nx=y:=⟨_,rfl⟩
 rw[hy] at yl ⊢
 simp only[hy] at hP
 obtain⟨v,h',cc,rfl⟩:∃ v h',Ze K Tryz.prog 3 [.g [.int .i64 a,.int .i64 b,.int .i64 c,.int .i64 d,.int .u8 md,S],.c (.int .i64 ino),.g y] h v h'∧v=.w (.c (.bool true)):=by
  rcases hf:Zy6 a b c d md len with _|_
  ·
   rw[hf] at cf
   refine Ze.Z8 fits Hh (by kernel_rfl) (by kernel_rfl) (by kernel_rfl) (show Tryz.f3.body=some _ from rfl) rfl ?_
   iterate 9 (first|apply Goes.seq|apply Goes.skip|((first|apply Goes.Zr|apply Goes.ops2 fits Hh (Zh Zc (fun _ _ _ _=>Zrp Hh))); · simp (maxSteps:=9^6) +decide (disch:=first|omega|(simp only[lens]<;>omega)|decide) only [go_sem,Za,simprocAttr,xaw,hst,r6,lf,hln,yl,read1,Zw,Zt]<;>rfl))
   iterate 5 (first|apply Goes.seq|apply Goes.ret|((first|apply Goes.Zr|apply Goes.ops2 fits Hh (G6 Zc cf)); · simp (maxSteps:=9^6) +decide (disch:=first|omega|(simp only[lens]<;>omega)|decide) only [go_sem,Za,simprocAttr,xaw,hst,r6,lf,hln,yl,read1,Zw,Zt]<;>rfl))
   exact⟨_,_,(by simp (maxSteps:=9^6) +decide (disch:=first|omega|(simp only[lens]<;>omega)|decide) only [go_sem,Za,simprocAttr]<;>rfl),rfl⟩
  ·rw[hf] at cf
   by_cases hz:0<len
   ·
    refine Ze.Z8 fits Hh (by kernel_rfl) (by kernel_rfl) (by kernel_rfl) (show Tryz.f3.body=some _ from rfl) rfl ?_
    iterate 9 (first|apply Goes.seq|apply Goes.skip|((first|apply Goes.Zr|apply Goes.ops2 fits Hh (Zh Zc (fun _ _ _ _=>Zrp Hh))); · simp (maxSteps:=9^6) +decide (disch:=first|omega|(simp only[lens]<;>omega)|decide) only [go_sem,Za,simprocAttr,xaw,hst,r6,lf,hln,yl,read1,Zw,Zt]<;>rfl))
    iterate 5 (first|apply Goes.seq|apply Goes.ret|((first|apply Goes.Zr|apply Goes.ops2 fits Hh (G6 Zc cf)); · simp (maxSteps:=9^6) +decide (disch:=first|omega|(simp only[lens]<;>omega)|decide) only [go_sem,Za,simprocAttr,xaw,hst,r6,lf,hln,yl,read1,Zw,Zt]<;>rfl))
    exact⟨_,_,(by simp (maxSteps:=9^6) +decide (disch:=first|omega|(simp only[lens]<;>omega)|decide) only [go_sem,Za,simprocAttr]<;>rfl),rfl⟩
   ·unfold Zy6 at hf
    simp only[Bool.and_eq_true,decide_eq_true_eq] at hf
    obtain⟨⟨⟨⟨hf,f1⟩,m1⟩,m3⟩,f4⟩:=hf
    have hf':=hf
    unfold Zcc at hf'
    simp only[Bool.and_eq_true,decide_eq_true_eq] at hf'
    obtain⟨⟨⟨⟨p1',p2'⟩,p3'⟩,p4'⟩,fb⟩:=hf'
    obtain⟨a,rfl⟩:=Int.eq_ofNat_of_zero_le p1'
    obtain⟨b,rfl⟩:=Int.eq_ofNat_of_zero_le p2'
    obtain⟨c,rfl⟩:=Int.eq_ofNat_of_zero_le p3'
    obtain⟨d,rfl⟩:=Int.eq_ofNat_of_zero_le p4'
    simp only[Int.toNat_natCast] at fb
    obtain⟨g1,g2,g3,g4,g5,g6,g7,g8,g9,g10,g11⟩:=Z0 fb
    refine Ze.Z8 fits Hh (by kernel_rfl) (by kernel_rfl) (by kernel_rfl) (show Tryz.f3.body=some _ from rfl) rfl ?_
    iterate 9 (first|apply Goes.seq|apply Goes.skip|((first|apply Goes.Zr|apply Goes.ops2 fits Hh (Zh Zc (fun _ _ _ _=>Zrp Hh))); · simp (maxSteps:=9^6) +decide (disch:=first|omega|(simp only[lens]<;>omega)|decide) only [go_sem,Za,simprocAttr,xaw,hst,r6,r4,fb,lf,hln,yl,read1,Zw,Zt]<;>rfl))
    iterate 4 (first|apply Goes.seq|apply Goes.skip|((first|apply Goes.Zr|apply Goes.ops2 fits Hh (G6 Zc cf)); · simp (maxSteps:=9^6) +decide (disch:=first|omega|(simp only[lens]<;>omega)|decide) only [go_sem,Za,simprocAttr,xaw,hst,r6,r4,fb,lf,hln,yl,read1,Zw,Zt]<;>rfl))
    refine Goes.abs fun hA eA=>?_
    have nA:hA.next=h.next+1+1:=by rw[eA]; first|rfl|simp only[H.Zg,H.Zd]
    have kA:hA.get h.next=some (.row 6 [[.int .i64 (a:Int),.int .i64 (b:Int),.int .i64 (c:Int),.int .i64 (d:Int),.int .u8 md,S]] false):=by rw[eA]; simp (maxSteps:=9^6) +decide (disch:=first|omega|(simp only[lens]<;>omega)|decide) only [go_sem,Za,simprocAttr]<;>rfl
    have yA:hA.get (h.next+1)=some (.row 16 [y] false):=by rw[eA]; simp (maxSteps:=9^6) +decide (disch:=first|omega|(simp only[lens]<;>omega)|decide) only [go_sem,Za,simprocAttr,yl]<;>rfl
    have sA:hA.get 0=some O1:=by rw[eA]; refine Eq.trans ?_ hst; (first|(simp (discharger:=omega) only [H.get_put,H.Zi,H.Zm,H.Zd,H.Zg,H.Zj,if_neg]; done)|(simp only[H.get_put,H.Zi,H.Zm,H.Zd,H.Zg,H.Zj]; (repeat' split)<;>first|rfl|(exfalso; omega)|omega))
    clear eA
    obtain⟨L,I,c5⟩:=Zu1 Hh fb m1 m3 sA (by omega)
    iterate 6 (first|apply Goes.seq|apply Goes.skip|((first|apply Goes.Zr|apply Goes.ops2 fits Hh (Zy Zc c5)); · simp (maxSteps:=9^6) +decide (disch:=first|omega|(simp only[lens]<;>omega)|decide) only [go_sem,Za,simprocAttr,Z7,xaw,hst,r6,r4,fb,lf,hln,yl,kA,read1,Zw,Zt]<;>rfl))
    refine Goes.abs fun hB eB=>?_
    have MB:ClE hA.next a b c d md L hB:=by rw[eB]; exact Z3e (by omega) sA a b c d md L
    have yB:hB.get (h.next+1)=some (.row 16 [y] false):=by rw[eB]; refine Eq.trans ?_ yA; unfold frM Zen; simp (discharger:=omega) only [H.get_put,H.Zi,H.Zd,H.Zg,if_neg]
    clear eB
    obtain⟨n,hn⟩:∃ n,hA.next=n:=⟨_,rfl⟩
    simp only[hn] at *
    have nB:=MB.1.nx
    obtain⟨N,hN⟩:∃ N,2+d+a * b=N:=⟨_,rfl⟩
    have N1:N<4096:=by omega
    obtain⟨h8,p8,c8,R8,q8,l8,r8⟩:=Zss Hh fb MB.rs I.im hN (by rw[I.len,hN])
    have M8:=MB.rd R8
    have y8:=(R8.2.1 (h.next+1) (by omega) (by omega)).trans yB
    have n8:=R8.1
    obtain⟨h9,h11,h12,h13,h14,A,r,r2,S',X',e9,c11,c12,c13,c14,R14,hr,k9,k11,k12,k13,k14⟩:=hP fb I M8
    have c9:=Zqs Hh e9
    have y11:=((k9.then k11).2 (h.next+1) (by omega) ⟨by omega,by omega,by omega,by omega,by omega⟩ (by omega)).trans y8
    have kk:=((k9.then k11).then k12).then (k13.then k14)
    have r14:=(kk.2 p8 (by omega) ⟨by omega,by omega,by omega,by omega,by omega⟩ (by omega)).trans r8
    have n14:=kk.1
    obtain⟨h16,p16,c16,R16,q16,l16,r16⟩:=Zss Hh fb R14 I.im hN (by rw[I.len,hN])
    have r8':=(R16.2.1 p8 (by omega) (by omega)).trans r14
    have hcs:((r2 != 0)=false∧(true&&true)=true)∨(r2 != 0)=true∧(A != ino)=false:=by
     by_cases q:r2=0
     ·exact .inl ⟨Zzm q,rfl⟩
     ·rcases hr with h1|h1
      ·exact absurd h1 q
      ·exact .inr ⟨Z2j q,Zzm h1⟩
    have lp:=fun ts=>Zx4 Hh (a:=a) (b:=b) (c:=c) (e:=d) (p:=p8) (p2:=p16) I.im I.bi N1 h16 r8' r16 N 0 ts (by omega)
    rcases hcs with ⟨w1,w2⟩|⟨w1,w2⟩
    all_goals
     apply Goes.seq
     iterate 3 (first|apply Goes.seq|(apply Goes.ops2 fits Hh (Zy Zc c8); · simp (maxSteps:=9^6) +decide (disch:=first|omega|(simp only[lens]<;>omega)|decide) only [go_sem,Za,simprocAttr,Z7,y11,yl,w1,w2,lfb,read1,Zt,Y8]<;>rfl))
     iterate 4 (first|apply Goes.seq|apply Goes.skip|((first|apply Goes.Zr|apply Goes.ops2 fits Hh (Zy Zc c9)); · simp (maxSteps:=9^6) +decide (disch:=first|omega|(simp only[lens]<;>omega)|decide) only [go_sem,Za,simprocAttr,Z7,y11,yl,w1,w2,lfb,read1,Zt,Y8]<;>rfl))
     iterate 2 (first|apply Goes.seq|(apply Goes.ops2 fits Hh (Zy Zc c11); · simp (maxSteps:=9^6) +decide (disch:=first|omega|(simp only[lens]<;>omega)|decide) only [go_sem,Za,simprocAttr,Z7,y11,yl,w1,w2,lfb,read1,Zt,Y8]<;>rfl))
     iterate 2 (first|apply Goes.seq|(apply Goes.ops2 fits Hh (Zy Zc c12); · simp (maxSteps:=9^6) +decide (disch:=first|omega|(simp only[lens]<;>omega)|decide) only [go_sem,Za,simprocAttr,Z7,y11,yl,w1,w2,lfb,read1,Zt,Y8]<;>rfl))
     iterate 3 (first|apply Goes.seq|(apply Goes.ops2 fits Hh (Zy Zc c13); · simp (maxSteps:=9^6) +decide (disch:=first|omega|(simp only[lens]<;>omega)|decide) only [go_sem,Za,simprocAttr,Z7,y11,yl,w1,w2,lfb,read1,Zt,Y8]<;>rfl))
     iterate 4 (first|apply Goes.seq|apply Goes.skip|((first|apply Goes.Zr|apply Goes.ops2 fits Hh (Zy Zc c14)); · simp (maxSteps:=9^6) +decide (disch:=first|omega|(simp only[lens]<;>omega)|decide) only [go_sem,Za,simprocAttr,Z7,y11,yl,w1,w2,lfb,read1,Zt,Y8]<;>rfl))
     iterate 10 (first|apply Goes.seq|apply Goes.skip|apply Goes.block|((first|apply Goes.Zr|apply Goes.ops2 fits Hh (Zy Zc c16)); · simp (maxSteps:=9^6) +decide (disch:=first|omega|(simp only[lens]<;>omega)|decide) only [go_sem,Za,simprocAttr,Z7,y11,yl,w1,w2,lfb,read1,Zt,Y8]<;>rfl))
     refine (lp _ ?_ ?_ ?_).mono ?_
     ·simp (maxSteps:=9^6) +decide (disch:=first|omega|(simp only[lens]<;>omega)|decide) only [go_sem,Za,simprocAttr]
     ·simp (maxSteps:=9^6) +decide (disch:=first|omega|(simp only[lens]<;>omega)|decide) only [go_sem,Za,simprocAttr]
     ·simp (maxSteps:=9^6) +decide (disch:=first|omega|(simp only[lens]<;>omega)|decide) only [go_sem,Za,simprocAttr]<;>rfl
     rintro x ds' ts' h' ⟨rfl,rfl,rfl⟩
     iterate 3 (first|apply Goes.seq|apply Goes.ret|(apply Goes.ops2 fits Hh Zc; · simp (maxSteps:=9^6) +decide (disch:=first|omega|(simp only[lens]<;>omega)|decide) only [go_sem,Zf,Za,simprocAttr]<;>rfl))
     exact⟨_,_,(by simp (maxSteps:=9^6) +decide (disch:=first|omega|(simp only[lens]<;>omega)|decide) only [go_sem,Za,simprocAttr]<;>rfl),rfl⟩
 exact⟨h',cc⟩
end
end Go.Proofs.YtngejdlimkgjfaaGreatDoor
set_option maxRecDepth 100000
namespace Go.Proofs.YtngejdlimkgjfaaGreatDoor
open Go.Ev Go.ChangeShapes Go.WideShapes
def Zks (v:Value):Prop:=v=.slice none 0 0∨∃ b o sp len cap,v=.slice (some ⟨b,o,sp⟩) len cap∧len≤cap∧(cap=0∨sp=none)
theorem Zri {H:Type} {enc:TypeId × Value→H} {W:World} {fuel:Nat} {cs:List Value} {x:DataW H × List MemPlace} (h:DataW.trod enc Tryz.prog W 0 (fun _=>true) true fuel 24 cs=some x):∃ v,cs=[v]∧Zks v:=by
 rcases DataW.trod_slice Tryz.underlying24 h with ⟨h0,_⟩|⟨⟨b,o,sp⟩,len,cap,elems,rest,n,rfl,rfl,_,_,hl,_,hlen,hel,hsp,_⟩
 ·exact⟨_,h0,.inl rfl⟩
 refine⟨_,rfl,.inr ⟨b,o,sp,len,cap,rfl,hl,?_⟩⟩
 rcases Nat.eq_zero_or_pos cap with c0|c0
 ·exact .inl c0
 right
 have c2:Tryz.prog.cellsOf 337=3:=by kernel_rfl
 obtain⟨hrl,hr⟩:=hsp rfl
 rw[c2] at hel hr
 have key:∃ y,(W.cells? 0 ((⟨b,o,sp⟩:Addr).add (0 * 3)) 3).bind (DataW.trod enc Tryz.prog W 0 (fun _=>true) true n 337)=some y:=by
  by_cases h1:0<len
  ·exact⟨_,(hel 0 h1).trans (List.getElem?_eq_getElem (by omega))⟩
  ·have:=hr (0 - len) (by omega)
   rw[show len+(0 - len)=0 by omega] at this
   exact⟨_,this.trans (List.getElem?_eq_getElem (by omega))⟩
 obtain⟨y,hy⟩:=key
 obtain⟨cs',h1,h2⟩:=Option.bind_eq_some_iff.1 hy
 obtain⟨hl2,hc⟩:=Ztv h1
 have q0:=hc 0 (by omega)
 rw[List.getElem?_eq_getElem (by omega)] at q0
 have:=World.cell?_spot q0
 simpa [Addr.add] using this
theorem Zpe {H:Type} {enc:TypeId × Value→H} {W:World} {base b0:Nat} {r:Reach} {v:Value} {d:DataW H} {p:List MemPlace} (hv:Value.okWide Tryz.prog W r b0 26 v) (h:DataW.Trod enc Tryz.prog W base (fun _=>true) true 26 v d p) (hb:base=0):∃ (a b c e md:Int) (v5:Value),v=.agg #[.int .i64 a,.int .i64 b,.int .i64 c,.int .i64 e,.int .u8 md,v5]∧Zks v5:=by
 subst hb
 obtain⟨cs,rfl,_⟩:=okWide_struct Tryz.underlying26 hv
 obtain⟨fuel,hf0⟩:=h
 have hf:DataW.trod enc Tryz.prog W 0 (fun _=>true) true fuel 26 cs.toList=_:=hf0
 obtain⟨Lc,hLc⟩:∃ l,cs.toList=l:=⟨_,rfl⟩
 rw[hLc] at hf
 obtain⟨xs,m,_,_,hl,hlen,hfl⟩:=DataW.trod_struct Tryz.underlying26 hf
 have xl:xs.length=3:=hlen
 have c6:Tryz.prog.cellsOf 26=6:=by kernel_rfl
 have cg:Tryz.prog.cellsOf 23=4:=by kernel_rfl
 have cb:Tryz.prog.cellsOf 5=1:=by kernel_rfl
 have ct:Tryz.prog.cellsOf 24=1:=by kernel_rfl
 have k0:=hfl 0 _ rfl
 have k1:=hfl 1 _ rfl
 have k2:=hfl 2 _ rfl
 rw[List.getElem?_eq_getElem (by omega)] at k0 k1 k2
 have l6:Lc.length=6:=hl.trans c6
 match Lc,l6 with
 | [u0,u1,u2,u3,u4,u5],_ =>
  have e0:(([u0,u1,u2,u3,u4,u5]:List Value).drop 0).take (Tryz.prog.cellsOf 23)=[u0,u1,u2,u3]:=by rw[cg]; rfl
  have e1:(([u0,u1,u2,u3,u4,u5]:List Value).drop 4).take (Tryz.prog.cellsOf 5)=[u4]:=by rw[cb]; rfl
  have e2:(([u0,u1,u2,u3,u4,u5]:List Value).drop 5).take (Tryz.prog.cellsOf 24)=[u5]:=by rw[ct]; rfl
  have k0':DataW.trod enc Tryz.prog W 0 (fun _=>true) true m 23 [u0,u1,u2,u3]=_:=e0 ▸ k0
  have k1':DataW.trod enc Tryz.prog W 0 (fun _=>true) true m 5 [u4]=_:=e1 ▸ k1
  have k2':DataW.trod enc Tryz.prog W 0 (fun _=>true) true m 24 [u5]=_:=e2 ▸ k2
  obtain⟨⟨z0,rfl,_⟩,⟨z1,rfl,_⟩,⟨z2,rfl,_⟩,⟨z3,rfl,_⟩,_⟩:=Xz 8 (show kinds Tryz.prog 8 23=some [.int .i64,.int .i64,.int .i64,.int .i64] by kernel_rfl) k0'
  obtain⟨⟨z4,rfl,_⟩,_⟩:=Xz 8 (show kinds Tryz.prog 8 5=some [.int .u8] by kernel_rfl) k1'
  obtain⟨v5,e5,ok⟩:=Zri k2'
  cases e5
  exact⟨z0,z1,z2,z3,z4,_,by congr 1; rw[←Array.toList_inj,hLc],ok⟩
noncomputable def Z0x:Go.Ev.H:=⟨Qb.m,2⟩
def Znd (l:Go.Ev.Loc):Go.Ev.Ren:=fun n=>if n=1 then some l else if n=0 then some ⟨0,0,16⟩ else none
theorem Zgi (l:Go.Ev.Loc):Dom (Znd l) 2:=fun n hn=>by
 unfold Znd
 rw[if_neg (by omega),if_neg (by omega)]
theorem Zko {W:World} {cs:Array Value} {t:TypeId} {fr:Nat × Nat} (hb:W.heap[0]? = some (.cells cs t fr)) (hcs:cs.toList=steps16.map (Value.int .u32)) (l:Go.Ev.Loc):Rep K (Znd l) Z0x W:=by
 have R:=Zdp gl hb hcs
 refine⟨fun g n h=>?_,fun n o h=>?_,fun n n' o o' l l' hne h h' _ _=>?_⟩
 ·obtain⟨rfl,rfl⟩:=Wm gl h
  exact⟨16,rfl⟩
 ·obtain⟨l0,hl0,hor⟩:=R.obj n o h
  obtain⟨rfl,rfl⟩:=Bp h
  refine⟨l0,hl0,?_⟩
  have hs:(O.row 16 [steps16.map (C.int .u32)] true).simple=true:=rfl
  have:=(Vf (σ:=fun n=>n) (ρ:=fun n=>if n=0 then Znd l 0 else none) (w:=W) hs l0)
  exact (Vf (σ:=fun _=>0) (ρ:=Znd l) (w:=W) hs l0).2 ((Vf (σ:=fun _=>0) (ρ:=R3 0) (w:=W) hs l0).1 hor)
 ·obtain⟨rfl,_⟩:=Bp h
  obtain⟨rfl,_⟩:=Bp h'
  exact absurd rfl hne
theorem Z56:Un K 24 (.c .snil)=true:=by kernel_rfl
theorem Z5i (p o l:Nat):Un K 24 (.c (.slice p o l 3))=true:=by kernel_rfl
theorem Z6f (h:Go.Ev.H):Y8 K h 24 (.c .snil)=some (.int .i64 ((0:Nat):Int)):=rfl
theorem Z4s (p o l:Nat) (h:Go.Ev.H):Y8 K h 24 (.c (.slice p o l 3))=some (.int .i64 (l:Int)):=rfl
theorem wf_u32 {n:Int} (h:(Lit.int .u32 n).wf=true):0≤n∧n<4294967296:=by
 simp [Lit.wf,IntKind.min,IntKind.max,IntKind.signed,IntKind.bits] at h
 omega
section
variable (Hh:Hearts K Tryz.prog)
include Hh
theorem Zul {W:World} {cs:Array Value} {t:TypeId} {fr:Nat × Nat} (hb:W.heap[0]? = some (.cells cs t fr)) (hcs:cs.toList=steps16.map (Value.int .u32)) (a b c d md ino:Int) {v5:Value} (ok:Zks v5) (k l g s p0 p1 p2 p3 p4 p5 p6 p7 p8 p9 p10 nx:Int) (w2:(Lit.int .u32 g).wf=true) (w4:(Lit.int .u32 p0).wf=true) (w5:(Lit.int .u32 p1).wf=true) (w6:(Lit.int .u32 p2).wf=true) (w7:(Lit.int .u32 p3).wf=true) (w8:(Lit.int .u32 p4).wf=true) (w9:(Lit.int .u32 p5).wf=true) (w10:(Lit.int .u32 p6).wf=true) (w11:(Lit.int .u32 p7).wf=true) (w12:(Lit.int .u32 p8).wf=true) (w13:(Lit.int .u32 p9).wf=true) (w14:(Lit.int .u32 p10).wf=true) (w15:(Lit.int .u32 nx).wf=true) :
  Calls Tryz.prog 3 #[.agg #[.int .i64 a,.int .i64 b,.int .i64 c,.int .i64 d,.int .u8 md,v5],.int .i64 ino,.agg #[.int .u8 k,.int .i64 l,.int .u32 g,.int .i64 s,.int .u32 p0,.int .u32 p1,.int .u32 p2,.int .u32 p3,.int .u32 p4,.int .u32 p5,.int .u32 p6,.int .u32 p7,.int .u32 p8,.int .u32 p9,.int .u32 p10,.int .u32 nx]] W fun e W'=>e=.returned (.bool true)∧Go.RowKit.Below W.heap.size W W':=by
 have h0:Z0x.get 0=some O1:=rfl
 have ro:∀ n o,Z0x.get n=some o→o.ro=true:=fun n o e=>by rw[(Bp e).2]; rfl
 have pb:∀ v∈[p0,p1,p2,p3,p4,p5,p6,p7,p8,p9,p10],0≤v∧v<4294967296:=fun v hv=>by
  simp only[List.mem_cons,List.not_mem_nil,or_false] at hv
  rcases hv with rfl|rfl|rfl|rfl|rfl|rfl|rfl|rfl|rfl|rfl|rfl<;>exact wf_u32 (by assumption)
 have law:=fun {S:C} {len:Int} (lf:Un K 24 (.c S)=true) (hln:∀ h,Y8 K h 24 (.c S)=some (.int .i64 len)) (l1:0≤len)=>Zuq Hh lf hln l1 (h:=Z0x) h0 (by show 0<2; omega) a b c d md ino (k:=k) (l:=l) (s:=s) (wf_u32 w2) pb (wf_u32 w15)
 rcases ok with rfl|⟨bk,o,sp,len,cap,rfl,hlc,hc⟩
 ·obtain⟨h',cc⟩:=law (S:=.snil) Z56 Z6f (by omega)
  exact Vx (ρ:=Znd ⟨0,0,0⟩) (vals:=[.agg #[.int .i64 a,.int .i64 b,.int .i64 c,.int .i64 d,.int .u8 md,.slice none 0 0],.int .i64 ino,.agg #[.int .u8 k,.int .i64 l,.int .u32 g,.int .i64 s,.int .u32 p0,.int .u32 p1,.int .u32 p2,.int .u32 p3,.int .u32 p4,.int .u32 p5,.int .u32 p6,.int .u32 p7,.int .u32 p8,.int .u32 p9,.int .u32 p10,.int .u32 nx]]) (Zko hb hcs _) (Zgi _) ro cc
   ⟨⟨_,rfl,rfl,rfl,rfl,rfl,rfl,rfl,trivial⟩,rfl,⟨_,rfl,rfl,rfl,rfl,rfl,rfl,rfl,rfl,rfl,rfl,rfl,rfl,rfl,rfl,rfl,rfl,rfl,trivial⟩,trivial⟩
 ·rcases hc with c0|rfl
  ·subst c0
   obtain rfl:len=0:=by omega
   obtain⟨h',cc⟩:=law (S:=.slice 1 0 0 3) (Z5i 1 0 0) (Z4s 1 0 0) (by omega)
   exact Vx (ρ:=Znd ⟨0,0,0⟩) (vals:=[.agg #[.int .i64 a,.int .i64 b,.int .i64 c,.int .i64 d,.int .u8 md,.slice (some ⟨bk,o,sp⟩) 0 0],.int .i64 ino,.agg #[.int .u8 k,.int .i64 l,.int .u32 g,.int .i64 s,.int .u32 p0,.int .u32 p1,.int .u32 p2,.int .u32 p3,.int .u32 p4,.int .u32 p5,.int .u32 p6,.int .u32 p7,.int .u32 p8,.int .u32 p9,.int .u32 p10,.int .u32 nx]]) (Zko hb hcs _) (Zgi _) ro cc
    ⟨⟨_,rfl,rfl,rfl,rfl,rfl,rfl,⟨⟨0,0,0⟩,_,_,rfl,rfl,.inl ⟨rfl,rfl⟩⟩,trivial⟩,rfl,⟨_,rfl,rfl,rfl,rfl,rfl,rfl,rfl,rfl,rfl,rfl,rfl,rfl,rfl,rfl,rfl,rfl,rfl,trivial⟩,trivial⟩
  ·obtain⟨h',cc⟩:=law (S:=.slice 1 0 len 3) (Z5i 1 0 len) (Z4s 1 0 len) (by omega)
   exact Vx (ρ:=Znd ⟨bk,o,o+cap * 3⟩) (vals:=[.agg #[.int .i64 a,.int .i64 b,.int .i64 c,.int .i64 d,.int .u8 md,.slice (some ⟨bk,o,none⟩) len cap],.int .i64 ino,.agg #[.int .u8 k,.int .i64 l,.int .u32 g,.int .i64 s,.int .u32 p0,.int .u32 p1,.int .u32 p2,.int .u32 p3,.int .u32 p4,.int .u32 p5,.int .u32 p6,.int .u32 p7,.int .u32 p8,.int .u32 p9,.int .u32 p10,.int .u32 nx]]) (Zko hb hcs _) (Zgi _) ro cc
    ⟨⟨_,rfl,rfl,rfl,rfl,rfl,rfl,⟨⟨bk,o,o+cap * 3⟩,_,_,rfl,rfl,.inr ⟨rfl,hlc,by show o+0+cap * 3≤o+cap * 3; omega⟩⟩,trivial⟩,rfl,⟨_,rfl,rfl,rfl,rfl,rfl,rfl,rfl,rfl,rfl,rfl,rfl,rfl,rfl,rfl,rfl,rfl,rfl,trivial⟩,trivial⟩
end
end Go.Proofs.YtngejdlimkgjfaaGreatDoor
