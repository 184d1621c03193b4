/- DirsApart: one name in two directories; the law from its parts. -/
import Derived.Test.YtecakmodlkbnaaaGreatDoorTkn
import Derived.Test.YtecakmodlkbnaaaGreatDoorFr28
import Derived.Test.YtecakmodlkbnaaaGreatDoorX28
import Derived.Test.YtecakmodlkbnaaaGreatDoorAw28
set_option linter.unusedSimpArgs false
set_option linter.unusedVariables false
set_option linter.unusedSectionVars false
set_option maxRecDepth 100000
set_option maxHeartbeats 4000000
namespace Go.Proofs.YtecakmodlkbnaaaGreatDoor
open Go.Ev
noncomputable def q4 (p:List Nat):Code:=piece p (Uh Tryz.f4)
theorem rs4:Tryz.f4.results.toList=[.tmp 4]:=rfl
attribute [go_sem] rs4
theorem DirS.keep {a b c e j g:Nat} {V V':Nat→List Nat} {P:Nat→Nat} {bs:List Nat} {L:List (List Sl)} (D:DirS a b c e V j g P bs L) (gz:gI a b c e V' ((j+1:Nat):Int)=gI a b c e V ((j+1:Nat):Int)) (k:∀ z∈bs,V' z=V z):DirS a b c e V' j g P bs L:=by
 refine⟨gz.trans D.gz,D.jl,D.gb,D.pb,D.void,⟨D.db.lb,D.db.ll,fun i z hz=>?_⟩,D.nd,D.dat⟩
 obtain⟨h1,h2,h3,h4,l,h5,h6⟩:=D.db.at_ i z hz
 exact⟨h1,h2,h3,h4,l,h5,by rw[k z (List.mem_of_getElem? hz)]; exact h6⟩
theorem Zzt {E:Task→Option Go.Ev.Out} {f g:FuncId} {p p':W} {z z':Int} {r r':List W} {kd kd':IntKind} {h k:Go.Ev.H} {v:V} {h':Go.Ev.H} (e:z'≠z):E1 E f (p :: .c (.int kd z) :: r) h v h' (.call g (p' :: .c (.int kd' z') :: r') k)=E (.call g (p' :: .c (.int kd' z') :: r') k):=if_neg fun w=>by
 cases w
 exact e rfl
theorem lk1 (z u:Nat) (s:List UInt8) (u0:u≠0):lkF [z] s (Jn [sl8.set 0 (u,s)])=(u,z):=by
 show (if u≠0∧s=s then (u,z) else _)=(u,z)
 rw[if_pos ⟨u0,rfl⟩]
theorem th1 (u:Nat) (s:List UInt8) (u0:u≠0):thF s (Jn [sl8.set 0 (u,s)])=true:=by
 show (!Nat.beq u 0&&Uw s s || _)=true
 rw[Nn u0,Dz.2 rfl]
 rfl
section
variable (Hh:Hearts K Tryz.prog)
include Hh
variable {n q a b c e:Nat} {cr:Cr} {md:Int} {cap:Nat} {h:Go.Ev.H}
theorem Z9e {L:List (List C)} (f:Ym a b c e=true) (m0:md≠0) (I:Image a b c e L) (c2:cap=min 2 (a * fF b c)) (M:HE n q a b c e cr md (SG b c e cap) [] (vI L) h) (s:List UInt8) (ts:Zx) (t1:Zh ts 1=.w (.c (.str s))) (t5:Zh ts 5=.w (.c (.ptr (n+13) 0))) :
  Ye 131 none (q4 [1,1,1,1,1]) [] ts h fun x ds' ts' h'=>ds'=[]∧x=.ret∧Zh ts' 4=.w (.c (.bool true)):=by
 obtain⟨g1,g2,g3,g4,g5,g6,g7,g8,g9,g10,g11⟩:=Zv f
 have ac:c≤a * c:=Nat.le_mul_of_pos_left _ (by omega)
 obtain⟨p1,p2⟩:=Zbs f
 have aF:1≤a * fF b c:=Nat.mul_pos (by omega) p1
 obtain⟨h1,V1,k1,M1,kp1,al1,Da,Db⟩:=Z4f Hh f I (Zv4 Hh f I) M
 have A:=Z8n Hh (n:=n) (q:=q) (cr:=cr) (md:=md) (S:=SG b c e cap) f (Z1o (c:=c) (by omega)) (show cap≤a * fF b c by omega) Zm2.1 fun m hm=>Zhz hm
 cases my:Vv s with
 | false =>
  obtain⟨h2,k2,M2,kr2⟩:=Zpf Hh f m0 M1 2 1 my
  apply Zk
  have Jf:=Yy @t1 @t5
  iterate 7 (first|apply Zk|apply Zw|refine Goes.Zi Zj ?_|refine Zq Hh (Zp Za k1) Zj ?_)
  iterate 8 (first|apply Zk|apply Z0|refine Goes.Zi Zj ?_|refine Zq Hh (Zp Za k2) Zj ?_)
  exact⟨rfl,rfl,by exact Zc⟩
 | true =>
  obtain⟨b0,i0,j0⟩:=Td f (show 0<a * fF b c by omega)
  obtain⟨h2,V2,k2,kp2,M2,al2,Db2,g2',fr2⟩:=Zey Hh (s:=s) (u:=1) f m0 M1 Db my (by omega) (by omega) (by omega) rfl rfl (by decide) A al1 (by omega) (by have:=Td f (show 0<a * fF b c by omega); omega) (fun i _=>Zf3 f i) (fun i _=>Zda f i) Zm2.2.2.2 (Zcb f (by omega)) (fun z hz=>by simp at hz)
  have Da2:=Da.keep (g2' 0 (by omega)) (fun z hz=>by simp at hz)
  obtain⟨h3,k3,M3,kr3⟩:=Zgq Hh f m0 M2 Da2.o s
  rw[my,if_pos rfl,if_pos rfl] at k3
  have k2:Zg 9 [.c (.ptr (n+13) 0),.c (.int .i64 2),.c (.str s),.c (.int .i64 1)] h1 (.w (.c (.int .i64 0))) h2:=k2
  have k3:Zg 14 [.c (.ptr (n+13) 0),.c (.int .i64 1),.c (.str s)] h2 (.tup [.c (.int .i64 0),.c (.int .i64 301)]) h3:=k3
  have no:¬ mtG a b e (Vr b c e 0):=fun w=>by
   rcases w with w|⟨k2,_,w⟩
   ·omega
   ·exact Qq (m:=0) f (k:=k2) (r:=0) (by omega) w
  by_cases c1:1<cap
  ·obtain⟨h4,V4,k4,kp4,M4,al4,Da4,g4',fr4⟩:=Zey Hh (s:=s) (u:=2) f m0 M3 Da2 my (by omega) (by omega) (by omega) rfl rfl (by decide) A al2 c1 (by have:=Td f (show 0+1<a * fF b c by omega); omega) (fun i _=>Zf3 f i) (fun i _=>Zda f i) Zm2.2.2.1 (Zcb f (by omega)) (fun z hz=>by simp at hz)
   have Db4:=Db2.keep (g4' 1 (by omega)) (fun z hz=>by
    simp only[List.nil_append,List.mem_cons,List.not_mem_nil,or_false] at hz
    subst hz
    exact fr4 _ no (fun w=>by have:=Zhh f w; omega) (Ne.symm (Zda f 0)))
   obtain⟨h5,k5,M5,kr5⟩:=Zie Hh (s:=s) (u:=2) f m0 M4 Db4 my (by omega) (by omega) (th1 1 s (by omega))
   obtain⟨h6,k6,M6,kr6⟩:=Zgq Hh f m0 M5 Da4.o s
   obtain⟨h7,k7,M7,kr7⟩:=Zgq Hh f m0 M6 Db4.o s
   rw[my,if_pos rfl,if_pos rfl] at k6 k7
   have k4:Zg 9 [.c (.ptr (n+13) 0),.c (.int .i64 1),.c (.str s),.c (.int .i64 2)] h3 (.w (.c (.int .i64 0))) h4:=k4
   have k5:Zg 9 [.c (.ptr (n+13) 0),.c (.int .i64 2),.c (.str s),.c (.int .i64 2)] h4 (.w (.c (.int .i64 300))) h5:=k5
   have e6:=lk1 (Vr b c e (0+1)) 2 s (by omega)
   have e7:=lk1 (Vr b c e 0) 1 s (by omega)
   simp only[List.nil_append,e6] at k6
   simp only[List.nil_append,e7] at k7
   have k6:Zg 14 [.c (.ptr (n+13) 0),.c (.int .i64 1),.c (.str s)] h5 (.tup [.c (.int .i64 2),.c (.int .i64 0)]) h6:=k6
   have k7:Zg 14 [.c (.ptr (n+13) 0),.c (.int .i64 2),.c (.str s)] h6 (.tup [.c (.int .i64 1),.c (.int .i64 0)]) h7:=k7
   apply Zk
   have Jf:=Jb @t1 @t5 @Zzt
   iterate 7 (first|apply Zk|apply Zw|refine Goes.Zi Zj ?_|refine Zq Hh (Zp Za k1) Zj ?_)
   iterate 7 (first|apply Zk|apply Zw|refine Goes.Zi Zj ?_|refine Zq Hh (Zp Za k2) Zj ?_)
   iterate 2 (first|apply Zk|refine Zq Hh (Zp Za k3) Zj ?_)
   iterate 7 (first|apply Zk|apply Zw|refine Goes.Zi Zj ?_|refine Zq Hh (Zp (Zp Za k4) k5) Zj ?_)
   iterate 2 (first|apply Zk|refine Zq Hh (Zp Za k6) Zj ?_)
   iterate 4 (first|apply Zk|apply Z0|refine Zq Hh (Zp Za k7) Zj ?_)
   exact⟨rfl,rfl,by exact Zc⟩
  ·have me:a * fF b c=0+1:=by omega
   rw[←me] at al2
   obtain⟨h4,k4,M4,kp4⟩:=Zkn Hh (s:=s) (u:=2) f m0 M3 Da2 my (by omega) (by omega) (by omega) rfl rfl (by decide) (fun h M=>noG Hh f M al2 (Zcb f (by omega)))
   obtain⟨h5,k5,M5,kr5⟩:=Zie Hh (s:=s) (u:=2) f m0 M4 Db2 my (by omega) (by omega) (th1 1 s (by omega))
   have k4:Zg 9 [.c (.ptr (n+13) 0),.c (.int .i64 1),.c (.str s),.c (.int .i64 2)] h3 (.w (.c (.int .i64 230))) h4:=k4
   have k5:Zg 9 [.c (.ptr (n+13) 0),.c (.int .i64 2),.c (.str s),.c (.int .i64 2)] h4 (.w (.c (.int .i64 300))) h5:=k5
   apply Zk
   have Jf:=Jb @t1 @t5 @Zzt
   iterate 7 (first|apply Zk|apply Zw|refine Goes.Zi Zj ?_|refine Zq Hh (Zp Za k1) Zj ?_)
   iterate 7 (first|apply Zk|apply Zw|refine Goes.Zi Zj ?_|refine Zq Hh (Zp Za k2) Zj ?_)
   iterate 2 (first|apply Zk|refine Zq Hh (Zp Za k3) Zj ?_)
   iterate 8 (first|apply Zk|apply Z0|refine Goes.Zi Zj ?_|refine Zq Hh (Zp (Zp Za k4) k5) Zj ?_)
   exact⟨rfl,rfl,by exact Zc⟩
theorem Yb9 {L:List (List C)} {d d1 d2:Nat} (f:Ym a b c e=true) (M:ClD n d d1 d2 a b c e md L h) (I:Image a b c e L) (c2:cap≤2):Xa [.c (.ptr (n+13) 0),.c (.int .i64 20),.c (.int .i64 0)] h=some (.w (.c (.int .i64 0)),Zat n h ⟨20,0⟩)∧HE n h.next a b c e ⟨20,0⟩ md (SG b c e cap) [] (vI L) (Zat n h ⟨20,0⟩):=by
 obtain⟨g1,g2,g3,g4,g5,g6,g7,g8,g9,g10,g11⟩:=Zv f
 exact⟨M.beg f (cr:=⟨20,0⟩) (s:=22) (by decide) (by omega),M.begun (S:=SG b c e cap) (V:=vI L) (by rw[Zyr]; show ((4+2 * cap:Nat):Int)≤20; omega) (fun z z1 _=>Zro I z z1)⟩
theorem Z1e {S:C} {len:Int} (lf:Y7 K 24 (.c S)=true) (hln:∀ h,J3 K h 24 (.c S)=some (.int .i64 len)) (l1:0≤len) {h:Go.Ev.H} (hst:h.get 0=some Gf) (l0:0<h.next) (a b c d md:Int) (s:List UInt8) :
  ∃ h',Zg 4 [.g [.int .i64 a,.int .i64 b,.int .i64 c,.int .i64 d,.int .u8 md,S],.c (.str s)] h (.w (.c (.bool true))) h':=by
 have cf:=fun h=>Z2k Hh lf hln a b c d md h
 have r6:Zn 6 [[.int .i64 a,.int .i64 b,.int .i64 c,.int .i64 d,.int .u8 md,S]] 0 6=some [.int .i64 a,.int .i64 b,.int .i64 c,.int .i64 d,.int .u8 md,S]:=rfl
 have r4:Zn 6 [[.int .i64 a,.int .i64 b,.int .i64 c,.int .i64 d,.int .u8 md,S]] 0 4=some [.int .i64 a,.int .i64 b,.int .i64 c,.int .i64 d]:=rfl
 have lfs:=Zue s
 have lns:∀ h,J3 K h 9 (.c (.str s))=some (.int .i64 (s.length:Nat)):=fun _=>rfl
 obtain⟨v,h',cc,rfl⟩:∃ v h',Zg 4 [.g [.int .i64 a,.int .i64 b,.int .i64 c,.int .i64 d,.int .u8 md,S],.c (.str s)] h v h'∧v=.w (.c (.bool true)):=by
  rcases hf:Zwn a b c d md len with _|_
  ·
   rw[hf] at cf
   refine Yg Hh Tryz.f4 ?_
   iterate 9 (first|apply Zk|apply Zw|((first|apply Goes.Zi|apply Goes.ops2 fits Hh (EY Za (Qh Hh))); · simp (maxSteps:=9^6) +decide (disch:=first|omega|(simp only[lens]<;>omega)|decide) only [go_sem,Zm,simprocAttr,xaw,hst,r6,lf,hln,read1,Yf,Zr]<;>rfl))
   iterate 5 (first|apply Zk|apply Z0|((first|apply Goes.Zi|apply Goes.ops2 fits Hh (Yp Za cf)); · simp (maxSteps:=9^6) +decide (disch:=first|omega|(simp only[lens]<;>omega)|decide) only [go_sem,Zm,simprocAttr,xaw,hst,r6,lf,hln,read1,Yf,Zr]<;>rfl))
   exact⟨_,_,Yn,rfl⟩
  ·rw[hf] at cf
   by_cases hz:0<len
   ·
    have dz:decide (len > 0)=true:=decide_eq_true hz
    refine Yg Hh Tryz.f4 ?_
    iterate 9 (first|apply Zk|apply Zw|((first|apply Goes.Zi|apply Goes.ops2 fits Hh (EY Za (Qh Hh))); · simp (maxSteps:=9^6) +decide (disch:=first|omega|(simp only[lens]<;>omega)|decide) only [go_sem,Zm,simprocAttr,xaw,hst,r6,lf,hln,dz,read1,Yf,Zr]<;>rfl))
    iterate 5 (first|apply Zk|apply Z0|((first|apply Goes.Zi|apply Goes.ops2 fits Hh (Yp Za cf)); · simp (maxSteps:=9^6) +decide (disch:=first|omega|(simp only[lens]<;>omega)|decide) only [go_sem,Zm,simprocAttr,xaw,hst,r6,lf,hln,dz,read1,Yf,Zr]<;>rfl))
    exact⟨_,_,Yn,rfl⟩
   ·have dz:decide (len > 0)=false:=decide_eq_false hz
    by_cases A21:500<s.length
    ·have da:decide (((s.length:Nat):Int) > 500)=true:=decide_eq_true (by omega)
     refine Yg Hh Tryz.f4 ?_
     iterate 9 (first|apply Zk|apply Zw|((first|apply Goes.Zi|apply Goes.ops2 fits Hh (EY Za (Qh Hh))); · simp (maxSteps:=9^6) +decide (disch:=first|omega|(simp only[lens]<;>omega)|decide) only [go_sem,Zm,simprocAttr,xaw,hst,r6,lf,hln,dz,lfs,lns,da,read1,Yf,Zr]<;>rfl))
     iterate 5 (first|apply Zk|apply Z0|((first|apply Goes.Zi|apply Goes.ops2 fits Hh (Yp Za cf)); · simp (maxSteps:=9^6) +decide (disch:=first|omega|(simp only[lens]<;>omega)|decide) only [go_sem,Zm,simprocAttr,xaw,hst,r6,lf,hln,dz,lfs,lns,da,read1,Yf,Zr]<;>rfl))
     exact⟨_,_,Yn,rfl⟩
    ·have da:decide (((s.length:Nat):Int) > 500)=false:=decide_eq_false (by omega)
     unfold Zwn at hf
     simp only[Bool.and_eq_true,decide_eq_true_eq] at hf
     obtain⟨⟨⟨⟨hf,f1⟩,m1⟩,m3⟩,f4⟩:=hf
     have hf':=hf
     unfold Zaz at hf'
     simp only[Bool.and_eq_true,decide_eq_true_eq] at hf'
     obtain⟨⟨⟨⟨p1,p2⟩,p3⟩,p4⟩,fb⟩:=hf'
     obtain⟨a,rfl⟩:=Int.eq_ofNat_of_zero_le p1
     obtain⟨b,rfl⟩:=Int.eq_ofNat_of_zero_le p2
     obtain⟨c,rfl⟩:=Int.eq_ofNat_of_zero_le p3
     obtain⟨d,rfl⟩:=Int.eq_ofNat_of_zero_le p4
     simp only[Int.toNat_natCast] at fb
     have m0:md≠0:=by omega
     refine Yg Hh Tryz.f4 ?_
     iterate 9 (first|apply Zk|apply Zw|((first|apply Goes.Zi|apply Goes.ops2 fits Hh (EY Za (Qh Hh))); · simp (maxSteps:=9^6) +decide (disch:=first|omega|(simp only[lens]<;>omega)|decide) only [go_sem,Zm,simprocAttr,xaw,hst,r6,r4,fb,lf,hln,dz,lfs,lns,da,read1,Yf,Zr]<;>rfl))
     iterate 4 (first|apply Zk|apply Zw|((first|apply Goes.Zi|apply Goes.ops2 fits Hh (Yp Za cf)); · simp (maxSteps:=9^6) +decide (disch:=first|omega|(simp only[lens]<;>omega)|decide) only [go_sem,Zm,simprocAttr,xaw,hst,r6,r4,fb,lf,hln,dz,lfs,lns,da,read1,Yf,Zr]<;>rfl))
     refine Uc fun hA eA=>?_
     have nA:hA.next=h.next+1:=by rw[eA]; first|rfl|simp only[H.Zd,H.Zb]
     have kA:∀ m,m<h.next→hA.get m=h.get m:=fun m hm=>by rw[eA]; exact Yc
     have gA:hA.get h.next=some (.row 6 [[.int .i64 (a:Int),.int .i64 (b:Int),.int .i64 (c:Int),.int .i64 (d:Int),.int .u8 md,S]] false):=by rw[eA]; exact Yn
     clear eA
     obtain⟨L,h5,I,c5,M5,n5,k5⟩:=Zkt Hh fb m1 m3 ((kA 0 l0).trans hst) (by omega)
     obtain⟨e6,W⟩:=Yb9 Hh (cap:=min 2 (a * fF b c)) fb M5 I (by omega)
     have c6:=Zia Hh e6
     iterate 3 (first|apply Zk|(apply Goes.ops2 fits Hh (Zp Za c5); · simp (maxSteps:=9^6) +decide (disch:=first|omega|(simp only[lens]<;>omega)|decide) only [go_sem,Zm,simprocAttr,Ya,xaw,hst,r6,r4,fb,lf,hln,dz,lfs,lns,da,gA,read1,Yf,Zr]<;>rfl))
     iterate 3 (first|apply Zw|((first|apply Goes.Zi|apply Goes.ops2 fits Hh (Zp Za c6)); · simp (maxSteps:=9^6) +decide (disch:=first|omega|(simp only[lens]<;>omega)|decide) only [go_sem,Zm,simprocAttr,Ya,xaw,hst,r6,r4,fb,lf,hln,dz,lfs,lns,da,gA,read1,Yf,Zr]<;>rfl))
     refine (Z9e Hh fb m0 I rfl W s _ ?_ ?_).mono ?_
     ·exact Zc
     ·exact Zc
     rintro x1 ds1 ts1 h1 ⟨rfl,rfl,t4⟩
     exact⟨_,_,(by have Jf:=@t4; exact Zj),rfl⟩
 exact⟨h',cc⟩
end
end Go.Proofs.YtecakmodlkbnaaaGreatDoor
set_option maxRecDepth 100000
namespace Go.Proofs.YtecakmodlkbnaaaGreatDoor
open Go.Ev Go.ChangeShapes Go.WideShapes
theorem Z3h {H:Type} {enc:TypeId × Value→H} {W:World} {base b0:Nat} {r:Reach} {v:Value} {d:DataW H} {p:List MemPlace} (hv:Value.okWide Tryz.prog W r b0 9 v) (h:DataW.Trod enc Tryz.prog W base (fun _=>true) true 9 v d p) (hb:base=0):∃ w:List UInt8,v=.string ⟨⟨w⟩⟩∧True:=by
 subst hb
 obtain⟨b,rfl⟩:=okWide_string Tryz.underlying9 hv
 exact⟨b.data.toList,rfl,trivial⟩
section
variable (Hh:Hearts K Tryz.prog)
include Hh
theorem Zoi {W:World} {cs:Array Value} {t:TypeId} {fr:Nat × Nat} (hb:W.heap[1]? = some (.cells cs t fr)) (hcs:cs.toList=steps16.map (Value.int .u32)) (a b c d md:Int) (s:List UInt8) {v5:Value} (ok5:Zaa v5) :
  Calls Tryz.prog 4 #[.agg #[.int .i64 a,.int .i64 b,.int .i64 c,.int .i64 d,.int .u8 md,v5],.string ⟨⟨s⟩⟩] W fun e W'=>e=.returned (.bool true)∧Go.RowKit.Below W.heap.size W W':=by
 obtain⟨c5,len,la,k5,lf5,ln5,l5⟩:=ok5.art 1
 obtain⟨h',cc⟩:=Z1e Hh lf5 ln5 l5 (Zui none) (by rw[R8]; omega) a b c d md s
 exact Zcv (ρ:=Zlr la ⟨0,0,0⟩) (vals:=[.agg #[.int .i64 a,.int .i64 b,.int .i64 c,.int .i64 d,.int .u8 md,v5],.string ⟨⟨s⟩⟩]) (Zo2 hb hcs fun ρ A e=>(by cases e)) (by rw[R8]; exact Zj6 la _) (fun n o e=>Zb9 e) cc ⟨⟨_,rfl,rfl,rfl,rfl,rfl,rfl,k5 _ rfl,trivial⟩,rfl,trivial⟩
end
end Go.Proofs.YtecakmodlkbnaaaGreatDoor
