/- bits.First, of a block whose first clear bit is 0 or 1. -/
import Derived.Test.YtngejdlimkgjfaaGreatDoorX24
import Derived.Test.YtngejdlimkgjfaaGreatDoorEvC
import Derived.Test.YtngejdlimkgjfaaGreatDoorInr
set_option linter.unusedSimpArgs false
set_option linter.unusedVariables false
set_option linter.unusedSectionVars false
set_option maxRecDepth 100000
set_option maxHeartbeats 4000000
namespace Go.Proofs.YtngejdlimkgjfaaGreatDoor
open Go.Ev
theorem rs36:Tryz.f36.results.toList=[.tmp 6]:=rfl
attribute [go_sem] rs36
noncomputable def Zyp:Kn1:=fun args h=>match args with
 | [.c (.int .i64 z)]=>bif decide (z=0) then some (.w (.c (.int .u8 1)),h) else bif decide (z=1) then some (.w (.c (.int .u8 2)),h) else none
 | _=>none
attribute [go_sem] Zyp
section
variable (Hh:Hearts K Tryz.prog)
include Hh
theorem Zcf {args:List W} {h h':Go.Ev.H} {v:V} (e:Zyp args h=some (v,h')):Ze K Tryz.prog 86 args h v h':=by
 unfold Zyp at e
 split at e
 ·rename_i z
  by_cases z0:z=0
  ·subst z0; cases e; exact Zlh Hh h 0
  ·by_cases z1:z=1
   ·subst z1; cases e; exact Zlh Hh h 1
   ·rw[decide_eq_false z0,decide_eq_false z1] at e; cases e
 ·cases e
theorem Z1i (g:Nat→Bool) (j t:Nat) (hj:(j=0∧g 0=false)∨(j=1∧g 0=true∧g 1=false)) (ht:j<t) (h2:t≤2048) (h:Go.Ev.H):Ze K Tryz.prog 36 [.g (Yy g),.c (.int .i64 0),.c (.int .i64 (t:Int))] h (.w (.c (.int .i64 (j:Int)))) h:=by
 have rd:read1 256 [Yy g] 0=some (.int .u8 ((byB g 0:Nat):Int)):=Zdu g 0 (by omega)
 have l1:Bh .u8 Nat.land ((byB g 0:Nat):Int) 1=.int .u8 ((if g 0=true then 1 else 0:Nat):Int):=by
  have:=Zkf (f:=Nat.land) (a:=byB g 0) (b:=1) (Mt _ _) (by omega) (land256 (Mt _ _))
  refine this.trans ?_
  rw[show Nat.land (byB g 0) 1=_ from Zca g 0]
 have l2:Bh .u8 Nat.land ((byB g 0:Nat):Int) 2=.int .u8 ((if g 1=true then 2 else 0:Nat):Int):=by
  have:=Zkf (f:=Nat.land) (a:=byB g 0) (b:=2) (Mt _ _) (by omega) (land256 (Mt _ _))
  refine this.trans ?_
  rw[show Nat.land (byB g 0) 2=_ from Zca g 1]
 have mx:max (0:Int) 0=0:=rfl
 have mn:min (t:Int) 2048=(t:Int):=by omega
 have q0:M0 .i64 0 8=some (.int .i64 0):=rfl
 have q1:M0 .i64 1 8=some (.int .i64 0):=rfl
 have pl:=U3 g
 obtain⟨v,h',cc,rfl,hk⟩:∃ v h',Ze K Tryz.prog 36 [.g (Yy g),.c (.int .i64 0),.c (.int .i64 (t:Int))] h v h'∧v=.w (.c (.int .i64 (j:Int)))∧∀ m,m<h.next→h'.get m=h.get m:=by
  rcases hj with ⟨rfl,g0⟩|⟨rfl,g0,g1⟩
  ·
   refine Ze.Z8 fits Hh (by kernel_rfl) (by kernel_rfl) (by kernel_rfl) (show Tryz.f36.body=some _ from rfl) rfl ?_
   repeat (first|apply Goes.seq|apply Goes.block|apply Goes.loop|apply Goes.skip|apply Goes.exit|apply Goes.ret|((first|apply Goes.Zr|apply Goes.ops2 fits Hh (Zh Zc (fun _ _ _ _=>Zcf Hh))); · simp (maxSteps:=9^6) +decide (disch:=first|omega|(simp only[lens]<;>omega)|decide) only [go_sem,Zf,Za,simprocAttr,rd,l1,g0,mx,mn,q0,pl,Zt,Zw]<;>rfl)|(apply Goes.drawn2 fits Hh (Zh Zc (fun _ _ _ _=>Zcf Hh)) (by kernel_rfl); · simp (maxSteps:=9^6) +decide (disch:=first|omega|(simp only[lens]<;>omega)|decide) only [go_sem,Zf,Za,simprocAttr,Js,Y2,Jd,Jo,Yv,Jp,Jf,Ye,Ja,Jr,Ux,Jg,Ya,Ym,Yh,Yg,Je,Yt,Y0,Yd,Yu,Jb,Oy,U8,Oj,Ee,Ep,Ue,Ug,Jn,Om,Uj,Ur,Jq,Y1,Uo,looks,O5,Op.operands,Call.operands,kd,Ud,List.filterMap_cons,List.filterMap_nil,List.append_nil,List.nil_append,List.cons_append,Ji,stable,Jl,J4,Jt,waits,Yr,List.all_cons,List.all_nil,List.any_cons,List.any_nil,Region.binds,Bool.or_true,Bool.true_or,Bool.and_true,Bool.true_and,Bool.or_false,Bool.false_or,Bool.and_self,Bool.or_self,Jc,Nat.le_refl,Nat.le_add_right,List.map_cons,Array.toList_append,rd,l1,g0,mx,mn,q0,pl,Zt,Zw]<;>rfl))
   exact⟨_,_,(by simp (maxSteps:=9^6) +decide (disch:=first|omega|(simp only[lens]<;>omega)|decide) only [go_sem,Zf,Za,simprocAttr]<;>rfl),rfl,fun m hm=>by (first|(simp (discharger:=omega) only [H.get_put,H.Zi,H.Zm,H.Zd,H.Zg,H.Zj,if_neg]; done)|(simp only[H.get_put,H.Zi,H.Zm,H.Zd,H.Zg,H.Zj]; (repeat' split)<;>first|rfl|(exfalso; omega)|omega))⟩
  ·
   refine Ze.Z8 fits Hh (by kernel_rfl) (by kernel_rfl) (by kernel_rfl) (show Tryz.f36.body=some _ from rfl) rfl ?_
   repeat (first|apply Goes.seq|apply Goes.block|apply Goes.loop|apply Goes.skip|apply Goes.exit|apply Goes.ret|((first|apply Goes.Zr|apply Goes.ops2 fits Hh (Zh Zc (fun _ _ _ _=>Zcf Hh))); · simp (maxSteps:=9^6) +decide (disch:=first|omega|(simp only[lens]<;>omega)|decide) only [go_sem,Zf,Za,simprocAttr,rd,l1,l2,g0,g1,mx,mn,q0,q1,pl,Zt,Zw]<;>rfl)|(apply Goes.drawn2 fits Hh (Zh Zc (fun _ _ _ _=>Zcf Hh)) (by kernel_rfl); · simp (maxSteps:=9^6) +decide (disch:=first|omega|(simp only[lens]<;>omega)|decide) only [go_sem,Zf,Za,simprocAttr,Js,Y2,Jd,Jo,Yv,Jp,Jf,Ye,Ja,Jr,Ux,Jg,Ya,Ym,Yh,Yg,Je,Yt,Y0,Yd,Yu,Jb,Oy,U8,Oj,Ee,Ep,Ue,Ug,Jn,Om,Uj,Ur,Jq,Y1,Uo,looks,O5,Op.operands,Call.operands,kd,Ud,List.filterMap_cons,List.filterMap_nil,List.append_nil,List.nil_append,List.cons_append,Ji,stable,Jl,J4,Jt,waits,Yr,List.all_cons,List.all_nil,List.any_cons,List.any_nil,Region.binds,Bool.or_true,Bool.true_or,Bool.and_true,Bool.true_and,Bool.or_false,Bool.false_or,Bool.and_self,Bool.or_self,Jc,Nat.le_refl,Nat.le_add_right,List.map_cons,Array.toList_append,rd,l1,l2,g0,g1,mx,mn,q0,q1,pl,Zt,Zw]<;>rfl))
   exact⟨_,_,(by simp (maxSteps:=9^6) +decide (disch:=first|omega|(simp only[lens]<;>omega)|decide) only [go_sem,Zf,Za,simprocAttr]<;>rfl),rfl,fun m hm=>by (first|(simp (discharger:=omega) only [H.get_put,H.Zi,H.Zm,H.Zd,H.Zg,H.Zj,if_neg]; done)|(simp only[H.get_put,H.Zi,H.Zm,H.Zd,H.Zg,H.Zj]; (repeat' split)<;>first|rfl|(exfalso; omega)|omega))⟩
 exact cc.quiet rfl hk
end
end Go.Proofs.YtngejdlimkgjfaaGreatDoor
set_option maxRecDepth 100000
set_option maxHeartbeats 4000000
namespace Go.Proofs.YtngejdlimkgjfaaGreatDoor
open Go.Ev
noncomputable def q9 (p:List Nat):Code:=piece p (Yc Tryz.f9)
theorem Zk8:q9 [1,1,1,1,1,1,0,1,2]=.rangeFunc (.tmp 41) #[42] (q9 [1,1,1,1,1,1,0,1,2,5]) (q9 [1,1,1,1,1,1,0,1,2,6]):=by kernel_rfl
theorem Zi6:q9 [1,1,1,1,1,1,0,1,2,5]=.region 11 (Y3 (q9 [1,1,1,1,1,1,0,1,2,5])) false:=by kernel_rfl
theorem Ziz:q9 [1,1,1,1,1,1,0,1,2,6]=.block 1 (q9 [1,1,1,1,1,1,0,1,2,6,2]):=by kernel_rfl
theorem rs9:Tryz.f9.results.toList=[.cell 6 3,.cell 7 37]:=rfl
theorem rs85:Tryz.f85.results.toList=[]:=rfl
attribute [go_sem] rs9 rs85
theorem rs40:Tryz.f40.results.toList=[]:=rfl
attribute [go_sem] rs40
def Zaj (a c:Nat) (near:Int):Nat:=if 1≤near∧near≤((a * c:Nat):Int) then (near.toNat - 1) / c else 0
def Z2t (kq:Int):List C:=Gw kq 1 1 0 0 0 0 0 0 0 0 0 0 0 0 0
def Zoe (kq:Int) (w:Nat):Nat:=if kq=2 then w+1 else w
structure Grp (a b c e:Nat) (lc:J9) (L:List (List C)) (U:Nat→List Nat) (D:List Dq) (kq:Int) (g:Nat→Bool) (k t x0 i0 w0:Nat):Prop where
 ka:k<a
 tt:(t=0∧g 0=false)∨(t=1∧g 0=true∧g 1=false)
 tc:t<c
 kk:kq=1∨kq=2
 bm:At lc L (2+e+k * b+1) (Yy g)
 see:Zdc a b c e lc L U
 old:gI a b c e U ((k * c+t+1:Nat):Int)=(ino0,0)
 hk:D[k]? = some (x0,i0,w0)
 y1:1≤i0
 y2:i0<4096
 y3:w0<4096
 Dl:D.length=a
 Dm:(D.set k (x0,i0 - 1,Zoe kq w0)).all (Tv (b - 2 - c / 4) c)=true
def lcT (b c e:Nat) (lc:J9) (U:Nat→List Nat) (D:List Dq) (kq:Int) (g:Nat→Bool) (k t x0 i0 w0:Nat):J9 :=
 J2 ((Jv b c e (k * c+t):Nat):Int) (pgL (Gv (U (Jv b c e (k * c+t))) (Gy c (k * c+t)) kq.toNat 1 1 0 [0,0,0,0,0,0,0,0,0,0,0] 0)) (J2 1 (pgL (O3 (Ea (D.set k (x0,i0 - 1,Zoe kq w0)) 0 Ou))) (J2 ((2+e+k * b+1:Nat):Int) (Yy (Mw g t)) lc))
section
variable (Hh:Hearts K Tryz.prog)
include Hh
theorem Z2v {h:Go.Ev.H} {p q k:Nat} {D:List Dq} {ro:Bool} {x y w:Nat} {kq:Int} (kk:kq=1∨kq=2) (hq:h.get q=some (.row 1 [[.int .u8 kq]] ro)) (hp:h.get p=some (.row 3 (D.map Oh) false)) (hk:D[k]? = some (x,y,w)) (y1:1≤y) (y2:y<4096) (w2:w<4096) (pq:p≠q):Ze K Tryz.prog 40 [.c (.ptr p (k * 3)),.c (.ptr q 0)] h (.tup []) (h.put p (.row 3 ((D.set k (x,y - 1,Zoe kq w)).map Oh) false)):=by
 have hr:(D.map Oh)[k]? = some [.int .i64 (x:Int),.int .i64 (y:Int),.int .i64 (w:Int)]:=by rw[List.getElem?_map,hk]; rfl
 have kl:k<(D.map Oh).length:=by
  rcases Nat.lt_or_ge k (D.map Oh).length with h1|h1
  ·exact h1
  ·rw[List.getElem?_eq_none h1] at hr; cases hr
 have r1:read1 3 (D.map Oh) (k * 3+1)=some (.int .i64 (y:Int)):=Zc2 (sz:=3) (j:=1) (by omega) hr
 have w1:Z5 3 (D.map Oh) (k * 3+1) [.int .i64 ((y:Int) - 1)]=some ((D.map Oh).set k [.int .i64 (x:Int),.int .i64 ((y:Int) - 1),.int .i64 (w:Int)]):=Lp hr rfl (by omega)
 have hr2:((D.map Oh).set k [.int .i64 (x:Int),.int .i64 ((y:Int) - 1),.int .i64 (w:Int)])[k]? = some [.int .i64 (x:Int),.int .i64 ((y:Int) - 1),.int .i64 (w:Int)]:=List.getElem?_set_self kl
 have r2:read1 3 ((D.map Oh).set k [.int .i64 (x:Int),.int .i64 ((y:Int) - 1),.int .i64 (w:Int)]) (k * 3+2)=some (.int .i64 (w:Int)):=Zc2 (sz:=3) (j:=2) (by omega) hr2
 have w2':Z5 3 ((D.map Oh).set k [.int .i64 (x:Int),.int .i64 ((y:Int) - 1),.int .i64 (w:Int)]) (k * 3+2) [.int .i64 ((w:Int)+1)]=some (((D.map Oh).set k [.int .i64 (x:Int),.int .i64 ((y:Int) - 1),.int .i64 (w:Int)]).set k [.int .i64 (x:Int),.int .i64 ((y:Int) - 1),.int .i64 ((w:Int)+1)]):=Lp hr2 rfl (by omega)
 have rq:read1 1 [[C.int .u8 kq]] 0=some (.int .u8 kq):=rfl
 have fin:((D.map Oh).set k [.int .i64 (x:Int),.int .i64 ((y:Int) - 1),.int .i64 (w:Int)]).set k [.int .i64 (x:Int),.int .i64 ((y:Int) - 1),.int .i64 ((w:Int)+1)]=(D.set k (x,y - 1,w+1)).map Oh:=by
  rw[List.set_set,List.map_set]
  congr 1
  show _=[C.int .i64 (x:Int),.int .i64 ((y - 1:Nat):Int),.int .i64 ((w+1:Nat):Int)]
  rw[show ((y - 1:Nat):Int)=(y:Int) - 1 by omega]
  rfl
 have fin1:(D.map Oh).set k [.int .i64 (x:Int),.int .i64 ((y:Int) - 1),.int .i64 (w:Int)]=(D.set k (x,y - 1,w)).map Oh:=by
  rw[List.map_set]
  congr 1
  show _=[C.int .i64 (x:Int),.int .i64 ((y - 1:Nat):Int),.int .i64 (w:Int)]
  rw[show ((y - 1:Nat):Int)=(y:Int) - 1 by omega]
 obtain⟨Z,hZ⟩:∃ Z,D.map Oh=Z:=⟨_,rfl⟩
 have fg:=fin
 have fg1:=fin1
 rw[hZ] at hp r1 w1 r2 w2' fg fg1
 have pp:=@H.Vt
 obtain⟨v,h',cc,rfl,rfl⟩:∃ v h',Ze K Tryz.prog 40 [.c (.ptr p (k * 3)),.c (.ptr q 0)] h v h'∧v=.tup []∧h'=h.put p (.row 3 ((D.set k (x,y - 1,Zoe kq w)).map Oh) false):=by
  rcases kk with rfl|rfl
  ·have dn:Zoe 1 w=w:=rfl
   rw[dn]
   refine Ze.Z8 fits Hh (by kernel_rfl) (by kernel_rfl) (by kernel_rfl) (show Tryz.f40.body=some _ from rfl) rfl ?_
   repeat (first|apply Goes.seq|apply Goes.block|apply Goes.loop|apply Goes.skip|apply Goes.exit|apply Goes.ret|((first|apply Goes.Zr|apply Goes.ops2 fits Hh Zc); · simp (maxSteps:=9^6) +decide (disch:=first|omega|(simp only[lens]<;>omega)|decide) only [go_sem,Zf,Za,simprocAttr,hq,hp,r1,w1,rq,pp]<;>rfl))
   exact⟨_,_,(by simp (maxSteps:=9^6) +decide (disch:=first|omega|(simp only[lens]<;>omega)|decide) only [go_sem,Zf,Za,simprocAttr,pp]<;>rfl),rfl,by rw[fg1]⟩
  ·have dn:Zoe 2 w=w+1:=rfl
   rw[dn]
   refine Ze.Z8 fits Hh (by kernel_rfl) (by kernel_rfl) (by kernel_rfl) (show Tryz.f40.body=some _ from rfl) rfl ?_
   repeat (first|apply Goes.seq|apply Goes.block|apply Goes.loop|apply Goes.skip|apply Goes.exit|apply Goes.ret|((first|apply Goes.Zr|apply Goes.ops2 fits Hh Zc); · simp (maxSteps:=9^6) +decide (disch:=first|omega|(simp only[lens]<;>omega)|decide) only [go_sem,Zf,Za,simprocAttr,hq,hp,r1,w1,r2,w2',rq,pp,fg]<;>rfl))
   exact⟨_,_,(by simp (maxSteps:=9^6) +decide (disch:=first|omega|(simp only[lens]<;>omega)|decide) only [go_sem,Zf,Za,simprocAttr,fg,pp]<;>rfl),rfl,rfl⟩
 exact cc
variable {n q a b c e w:Nat} {cr md:Int} {kn:Bool} {lc:J9} {L:List (List C)} {h:Go.Ev.H}
theorem Z2l (f:Jm a b c e=true) (M:MhE n q a b c e cr md w kn lc L h) (wc:(w:Int)+3≤cr) {U:Nat→List Nat} {D:List Dq} {kq:Int} {g:Nat→Bool} {k t x0 i0 w0:Nat} (G:Grp a b c e lc L U D kq g k t x0 i0 w0)
  {l p3 p4 p6 p7 p9 p11 pD:Nat} {o6 o7:C} {ts:Zx} (e3:Zq ts 3=.w (.c (.ptr p3 0))) (e4:Zq ts 4=.w (.c (.ptr p4 0))) (e6:Zq ts 6=.w (.c (.ptr p6 0))) (e7:Zq ts 7=.w (.c (.ptr p7 0))) (e9:Zq ts 9=.w (.c (.ptr p9 0))) (e11:Zq ts 11=.w (.c (.ptr p11 0))) (e12:Zq ts 12=.w (.c (.int .i64 (k:Int))))
  (c3:h.get p3=some (.row 1 [[.ptr (n+13) 0]] false)) (c4:h.get p4=some (.row 1 [[.int .u8 kq]] false)) (c6:h.get p6=some (.row 1 [[o6]] false)) (c7:h.get p7=some (.row 1 [[o7]] false)) (c9:h.get p9=some (.row 1 [[.slice pD 0 a 3]] false)) (c11:h.get p11=some (.row 4 [[.int .i64 (a:Int),.int .i64 (b:Int),.int .i64 (c:Int),.int .i64 (e:Int)]] false)) (cD:h.get pD=some (.row 3 (D.map Oh) false))
  (b3:q+9≤p3∧p3<h.next) (b4:q+9≤p4∧p4<h.next) (b6:q+9≤p6∧p6<h.next) (b7:q+9≤p7∧p7<h.next) (b9:q+9≤p9∧p9<h.next) (b11:q+9≤p11∧p11<h.next) (bD:q+9≤pD∧pD<h.next) (bl:q+9≤l∧l<h.next)
  (n1:p3≠pD) (n2:p4≠pD) (n3:p6≠pD) (n4:p7≠pD) (n5:p6≠p7) :
  Goes K Tryz.prog 96 (some l) (q9 [1,1,1,1,1,1,0,1,2,6]) [] ts h fun x _ _ h'=>x=.ret∧h.next≤h'.next∧MhE n q a b c e cr md (w+3) false (lcT b c e lc U D kq g k t x0 i0 w0) L h'∧(∀ m,m<h.next→Off n q m→m≠pD→m≠p6→m≠p7→h'.get m=h.get m)∧h'.get p6=some (.row 1 [[.int .i64 ((k * c+t+1:Nat):Int)]] false)∧h'.get p7=some (.row 1 [[.int .i64 0]] false):=by
 obtain⟨ka,tt,tc,kk,bm,see,old,hk,y1,y2,y3,Dl,Dm⟩:=G
 obtain⟨g1,g2,g3,g4,g5,g6,g7,g8,g9,g10,g11⟩:=Z0 f
 have st:=Uf (b:=b) ka
 have sc:=Uf (b:=c) ka
 obtain⟨zb,hb⟩:∃ z,2+e+k * b+1=z:=⟨_,rfl⟩
 rw[hb] at bm
 have zbl:zb<2+e+a * b:=by omega
 have ob:=T9 (z:=zb) (Z0 f) (by omega) zbl
 obtain⟨nq,nx⟩:=M.nx
 have bl1:(Yy g).length=256:=U3 _
 have bf1:(Yy g).all C.flat=true:=by simp [Yy,C.flat]
 have cF:∀ h,Ze K Tryz.prog 36 [.g (Yy g),.c (.int .i64 0),.c (.int .i64 (c:Int))] h (.w (.c (.int .i64 (t:Int)))) h:=fun h=>Z1i Hh g t c tt tc (by omega) h
 have ra:(k * 3+1) / 3=k:=by omega
 have rb:(k * 3+1) % 3=1:=by omega
 have rc:(D.map Oh)[k]? = some [.int .i64 (x0:Int),.int .i64 (i0:Int),.int .i64 (w0:Int)]:=by rw[List.getElem?_map,hk]; rfl
 have gm:g t=false:=by rcases tt with ⟨rfl,x⟩|⟨rfl,_,x⟩<;>exact x
 have ml:(Yy (Mw g t)).length=256:=U3 _
 have mf:(Yy (Mw g t)).all C.flat=true:=by simp [Yy,C.flat]
 unfold lcT
 rw[hb]
 obtain⟨j,hj⟩:∃ j,k * c+t=j:=⟨_,rfl⟩
 rw[hj] at old ⊢
 have kj:j / c=k:=by rw[←hj,Nat.mul_comm,Nat.mul_add_div (by omega),Nat.div_eq_of_lt tc,Nat.add_zero]
 have jl:j<a * c:=by omega
 obtain⟨D',hD'⟩:∃ D',D.set k (x0,i0 - 1,Zoe kq w0)=D':=⟨_,rfl⟩
 have Dl':D'.length=a:=by rw[←hD',List.length_set,Dl]
 rw[hD'] at Dm ⊢
 have pc:=E8 c j
 have mI:Qe (kq.toNat:Nat) (1:Nat) (0:Nat) (0:Nat) (0:Nat) (0:Nat) (0:Nat) (0:Nat) (0:Nat) (0:Nat) (0:Nat) (0:Nat) (0:Nat) (0:Nat) (0:Nat)=true:=by rcases kk with rfl|rfl<;>rfl
 have kb:kq.toNat<256:=by rcases kk with rfl|rfl<;>decide
 have ke:((kq.toNat:Nat):Int)=kq:=by rcases kk with rfl|rfl<;>rfl
 obtain⟨sj,sl⟩:=see j jl
 have hi:=fun (h:Go.Ev.H) (m:Nat) (hp:h.get m=some (.row 256 [pgL (U (Jv b c e j))] false)) (lm:m<h.next)=>Zmb Hh sl pc kb (l:=1) (g:=1) (s:=0) (p0:=0) (p1:=0) (p2:=0) (p3:=0) (p4:=0) (p5:=0) (p6:=0) (p7:=0) (p8:=0) (p9:=0) (p10:=0) (nx:=0) (by omega) (by omega) (by omega) (fun v hv=>by simp only[List.mem_cons,List.not_mem_nil,or_false,or_self] at hv; omega) (by omega) mI hp lm
 obtain⟨ms,hms⟩:∃ ms,Gv (U (Jv b c e j)) (Gy c j) kq.toNat 1 1 0 [0,0,0,0,0,0,0,0,0,0,0] 0=ms:=⟨_,rfl⟩
 have msl:ms.length=256:=by rw[←hms,Vm (by omega),sl]
 rw[hms] at hi ⊢
 have hi':∀ h m,h.get m=some (.row 256 [pgL (U (Jv b c e j))] false)→m<h.next→∃ h',Ze K Tryz.prog 60 [.c (.ptr m 0),.c (.int .i64 (Gy c j:Nat)),.g (Z2t kq)] h (.w (.c (.int .i64 0))) h'∧h.next≤h'.next∧h'.get m=some (.row 256 [pgL ms] false)∧∀ k,k<h.next→k≠m→h'.get k=h.get k:=fun h m hp lm=>by
  have:=hi h m hp lm
  rw[ke] at this
  exact this
 clear hi
 obtain⟨B,hB⟩:∃ B,Yy g=B:=⟨_,rfl⟩
 have zi:=Zf4
 have rz:ino0[2]? = some (.int .u32 0):=rfl
 have hG:=fun {kn:Bool} {h:Go.Ev.H} (M:MhE n q a b c e cr md w kn lc L h)=>Z2c Hh f M.rs see ((j+1:Nat):Int)
 simp only[old] at hG
 have hC:=fun {h:Go.Ev.H} (M:MhE n q a b c e cr md w kn lc L h) {pq:Nat} (hp:h.get pD=some (.row 3 (D.map Oh) false)) (pl:pD<h.next)=>Zn8 Hh f M wc jl sj sl msl (y:=Z2t kq) rfl ml mf (F:=40) (pq:=pq) hp Dl Dl' Dm pl bD.1
 rw[kj,hb] at hC
 rw[hB] at bm bl1 bf1 cF
 iterate 2 (first|apply Goes.seq|apply Goes.block)
 obtain⟨hZ,e1,rZ,nZ,MZ⟩:=M.get f ob zbl bm bl1 bf1
 have k1:=Wl Hh e1
 iterate 7 (first|apply Goes.seq|apply Goes.skip|((first|apply Goes.Zr|apply Goes.ops2 fits Hh (Zy (Zh Zc (fun _ _ _ _=>Dx Hh)) k1)); · simp (maxSteps:=9^6) +decide (disch:=first|omega|(simp only[lens]<;>omega)|decide) only [go_sem,Za,simprocAttr,Z7,f,e3,e4,e6,e7,e9,e11,e12,c3,c4,c6,c7,c9,c11,cD,rd4,hb,bl1,ra,rb,rc,hj,zi,Nat.zero_add,List.map_cons,Ed,List.cons_append,List.map_nil,read1]<;>rfl)|(apply Goes.drawn2 fits Hh (Zy (Zh Zc (fun _ _ _ _=>Dx Hh)) k1) (by kernel_rfl); · simp (maxSteps:=9^6) +decide (disch:=first|omega|(simp only[lens]<;>omega)|decide) only [go_sem,Za,simprocAttr,Js,Y2,Jd,Jo,Yv,Jp,Jf,Ye,Ja,Jr,Ux,Jg,Ya,Ym,Yh,Yg,Je,Yt,Y0,Yd,Yu,Jb,Oy,U8,Oj,Ee,Ep,Ue,Ug,Jn,Om,Uj,Ur,Jq,Y1,Uo,looks,O5,Op.operands,Call.operands,kd,Ud,List.filterMap_cons,List.filterMap_nil,List.append_nil,List.nil_append,List.cons_append,Ji,stable,Jl,J4,Jt,waits,Yr,List.all_cons,List.all_nil,List.any_cons,List.any_nil,Region.binds,Bool.or_true,Bool.true_or,Bool.and_true,Bool.true_and,Bool.or_false,Bool.false_or,Bool.and_self,Bool.or_self,Jc,Nat.le_refl,Nat.le_add_right,List.map_cons,Array.toList_append,Z7,f,e3,e4,e6,e7,e9,e11,e12,c3,c4,c6,c7,c9,c11,cD,rd4,hb,bl1,ra,rb,rc,hj,zi,Nat.zero_add,List.map_cons,Ed,List.cons_append,List.map_nil,read1]<;>rfl))
 have z3:=(rZ.2.1 p3 (by omega) (by omega)).trans c3
 have z9:=(rZ.2.1 p9 (by omega) (by omega)).trans c9
 have z11:=(rZ.2.1 p11 (by omega) (by omega)).trans c11
 have zD:=(rZ.2.1 pD (by omega) (by omega)).trans cD
 iterate 12 (first|apply Goes.seq|apply Goes.skip|((first|apply Goes.Zr|apply Goes.ops2 fits Hh (G6 Zc cF)); · simp (maxSteps:=9^6) +decide (disch:=first|omega|(simp only[lens]<;>omega)|decide) only [go_sem,Za,simprocAttr,f,e3,e4,e6,e7,e9,e11,e12,c3,c4,c6,c7,c9,c11,cD,rd4,hb,bl1,ra,rb,rc,hj,zi,Nat.zero_add,List.map_cons,Ed,List.cons_append,List.map_nil,z3,z9,z11,zD,nZ,read1]<;>rfl))
 iterate 2 (first|apply Goes.seq|(apply Goes.ops2 fits Hh (Zh Zc (fun _ _ _ _=>Zpc Hh)); · simp (maxSteps:=9^6) +decide (disch:=first|omega|(simp only[lens]<;>omega)|decide) only [go_sem,Za,simprocAttr,f,e3,e4,e6,e7,e9,e11,e12,c3,c4,c6,c7,c9,c11,cD,rd4,hb,bl1,ra,rb,rc,hj,zi,Nat.zero_add,List.map_cons,Ed,List.cons_append,List.map_nil,z3,z9,z11,zD,nZ,read1]<;>rfl))
 refine Goes.abs fun hA eA=>?_
 have nA:hA.next=h.next+1:=by rw[eA]; simp only[H.Zg,H.Zd,nZ]
 have kA:∀ m,m<h.next→m≠n+6→hA.get m=h.get m:=fun m hm hne=>by rw[eA]; refine Eq.trans ?_ (rZ.2.1 m hm hne); (first|(simp (discharger:=omega) only [H.get_put,H.Zi,H.Zm,H.Zd,H.Zg,H.Zj,if_neg]; done)|(simp only[H.get_put,H.Zi,H.Zm,H.Zd,H.Zg,H.Zj]; (repeat' split)<;>first|rfl|(exfalso; omega)|omega))
 have bA:hA.get h.next=some (.row 256 [B] false):=by rw[eA]; simp (maxSteps:=9^6) +decide (disch:=first|omega|(simp only[lens]<;>omega)|decide) only [go_sem,Za,simprocAttr,bl1,nZ]<;>rfl
 have MA:=MZ.keep (h2:=hA) (by rw[eA]; simp only[H.Zg,H.Zd]<;>omega) (fun m hm=>by rw[eA]; (first|(simp (discharger:=omega) only [H.get_put,H.Zi,H.Zm,H.Zd,H.Zg,H.Zj,if_neg]; done)|(simp only[H.get_put,H.Zi,H.Zm,H.Zd,H.Zg,H.Zj]; (repeat' split)<;>first|rfl|(exfalso; omega)|omega)))
 clear eA
 obtain⟨hG',k3,rG⟩:=hG MA
 have MG:=MA.rd rG
 have nG:=rG.1
 have cA3:=(kA p3 (by omega) (by omega)).trans c3
 iterate 7 (first|apply Goes.seq|apply Goes.skip|((first|apply Goes.Zr|apply Goes.ops2 fits Hh (Zy Zc k3)); · simp (maxSteps:=9^6) +decide (disch:=first|omega|(simp only[lens]<;>omega)|decide) only [go_sem,Za,simprocAttr,Z7,f,e3,e4,e6,e7,e9,e11,e12,c3,c4,c6,c7,c9,c11,cD,rd4,hb,bl1,ra,rb,rc,hj,zi,Nat.zero_add,List.map_cons,Ed,List.cons_append,List.map_nil,z3,z9,z11,zD,nZ,cA3,nA,read1]<;>rfl))
 refine Goes.abs fun hC' eC=>?_
 have nC:hC'.next=hG'.next+1:=by rw[eC]; simp only[H.Zg,H.Zd]
 have kC:∀ m,m<h.next+1→m≠n+6→hC'.get m=hA.get m:=fun m hm hne=>by rw[eC]; refine Eq.trans ?_ (rG.2.1 m (by omega) hne); (first|(simp (discharger:=omega) only [H.get_put,H.Zi,H.Zm,H.Zd,H.Zg,H.Zj,if_neg]; done)|(simp only[H.get_put,H.Zi,H.Zm,H.Zd,H.Zg,H.Zj]; (repeat' split)<;>first|rfl|(exfalso; omega)|omega))
 have iC:hC'.get hG'.next=some (.row 16 [ino0] false):=by rw[eC]; simp (maxSteps:=9^6) +decide (disch:=first|omega|(simp only[lens]<;>omega)|decide) only [go_sem,Za,simprocAttr,zi]<;>rfl
 have MC:=MG.keep (h2:=hC') (by rw[eC]; simp only[H.Zg,H.Zd]<;>omega) (fun m hm=>by rw[eC]; (first|(simp (discharger:=omega) only [H.get_put,H.Zi,H.Zm,H.Zd,H.Zg,H.Zj,if_neg]; done)|(simp only[H.get_put,H.Zi,H.Zm,H.Zd,H.Zg,H.Zj]; (repeat' split)<;>first|rfl|(exfalso; omega)|omega)))
 clear eC
 have bC:=(kC h.next (by omega) (by omega)).trans bA
 rw[←hB] at bC
 have k4:=Zxy Hh hC' h.next t g (by omega) gm bC
 iterate 2 (first|apply Goes.seq|(apply Goes.ops2 fits Hh (Zy Zc k4); · simp (maxSteps:=9^6) +decide (disch:=first|omega|(simp only[lens]<;>omega)|decide) only [go_sem,Za,simprocAttr,Z7,f,e3,e4,e6,e7,e9,e11,e12,c3,c4,c6,c7,c9,c11,cD,rd4,hb,bl1,ra,rb,rc,hj,zi,Nat.zero_add,List.map_cons,Ed,List.cons_append,List.map_nil,z3,z9,z11,zD,nZ,cA3,nA,read1]<;>rfl))
 refine Goes.abs fun hD eD=>?_
 have nD:hD.next=hG'.next+1:=by rw[eD,H.Zg,nC]
 have kD:∀ m,m<h.next→m≠n+6→hD.get m=h.get m:=fun m hm hne=>by rw[eD,Zp (by omega),kC m (by omega) hne]; exact kA m hm hne
 have bD':hD.get h.next=some (.row 256 [Yy (Mw g t)] false):=by rw[eD,Z9]
 have iD:hD.get hG'.next=some (.row 16 [ino0] false):=by rw[eD,Zp (by omega)]; exact iC
 have MD:=MC.keep (h2:=hD) (by rw[eD,H.Zg]; omega) (fun m hm=>by rw[eD,Zp (by omega)])
 clear eD
 have d3:=(kD p3 (by omega) (by omega)).trans c3
 have d4:=(kD p4 (by omega) (by omega)).trans c4
 have d9:=(kD p9 (by omega) (by omega)).trans c9
 have dD:=(kD pD (by omega) (by omega)).trans cD
 obtain⟨hE,k5,ME,nE,kE⟩:=hC MD (pq:=p4) dD (by omega) (fun h2 k2=>by
  have:=Z2v Hh (h:=h2) kk ((k2 p4 (by omega) ⟨by omega,by omega,by omega,by omega,by omega⟩).trans d4) ((k2 pD (by omega) ⟨by omega,by omega,by omega,by omega,by omega⟩).trans dD) hk y1 y2 y3 (Ne.symm n2)
  rw[hD'] at this
  exact this) hi'
 simp only[Z2t,Gw] at k5
 have rm:Zf 256 [Yy (Mw g t)] 0 256=some (Yy (Mw g t)):=Fp (by omega)
 have q6:=(kE p6 (by omega) ⟨by omega,by omega,by omega,by omega,by omega⟩ (by omega)).trans ((kD p6 (by omega) (by omega)).trans c6)
 have q7:=(kE p7 (by omega) ⟨by omega,by omega,by omega,by omega,by omega⟩ (by omega)).trans ((kD p7 (by omega) (by omega)).trans c7)
 iterate 9 (first|apply Goes.seq|apply Goes.skip|apply Goes.ret|((first|apply Goes.Zr|apply Goes.ops2 fits Hh (Zy Zc k5)); · simp (maxSteps:=9^6) +decide (disch:=first|omega|(simp only[lens]<;>omega)|decide) only [go_sem,Za,simprocAttr,Z7,f,e3,e4,e6,e7,e9,e11,e12,c3,c4,c6,c7,c9,c11,cD,rd4,hb,bl1,ra,rb,rc,hj,zi,Nat.zero_add,List.map_cons,Ed,List.cons_append,List.map_nil,z3,z9,z11,zD,nZ,cA3,nA,d3,d4,d9,bD',iD,rz,rm,q6,q7,read1]<;>rfl))
 refine⟨rfl,?_,ME.keep ?_ (fun m hm=>?_),?_,?_,?_⟩
 ·simp only[H.Zg]; omega
 ·simp only[H.Zg]; omega
 ·rw[Zp (by omega),Zp (by omega)]
 ·intro m m1 m2 m3 m4 m5; rw[Zp m5,Zp m4]; exact (kE m (by omega) m2 m3).trans (kD m m1 m2.1)
 ·rw[Zp (by omega),Z9]
 ·rw[Z9]
end
end Go.Proofs.YtngejdlimkgjfaaGreatDoor
set_option maxRecDepth 100000
set_option maxHeartbeats 4000000
namespace Go.Proofs.YtngejdlimkgjfaaGreatDoor
open Go.Ev
structure TCg (n q a b c e:Nat) (cr md:Int) (w:Nat) (kn:Bool) (lc:J9) (L:List (List C)) (D:List Dq) (kq:Int) (l p3 p4 p6 p7 p9 p11 pD:Nat) (ts:Zx) (h:Go.Ev.H):Prop where
 M:MhE n q a b c e cr md w kn lc L h
 e3:Zq ts 3=.w (.c (.ptr p3 0))
 e4:Zq ts 4=.w (.c (.ptr p4 0))
 e6:Zq ts 6=.w (.c (.ptr p6 0))
 e7:Zq ts 7=.w (.c (.ptr p7 0))
 e9:Zq ts 9=.w (.c (.ptr p9 0))
 e11:Zq ts 11=.w (.c (.ptr p11 0))
 c3:h.get p3=some (.row 1 [[.ptr (n+13) 0]] false)
 c4:h.get p4=some (.row 1 [[.int .u8 kq]] false)
 c6:h.get p6=some (.row 1 [[.int .i64 0]] false)
 c7:h.get p7=some (.row 1 [[.int .i64 0]] false)
 c9:h.get p9=some (.row 1 [[.slice pD 0 a 3]] false)
 c11:h.get p11=some (.row 4 [[.int .i64 (a:Int),.int .i64 (b:Int),.int .i64 (c:Int),.int .i64 (e:Int)]] false)
 cD:h.get pD=some (.row 3 (D.map Oh) false)
 b3:q+9≤p3∧p3<h.next
 b4:q+9≤p4∧p4<h.next
 b6:q+9≤p6∧p6<h.next
 b7:q+9≤p7∧p7<h.next
 b9:q+9≤p9∧p9<h.next
 b11:q+9≤p11∧p11<h.next
 bD:q+9≤pD∧pD<h.next
 bl:q+9≤l∧l<h.next
 n1:p3≠pD
 n2:p4≠pD
 n3:p6≠pD
 n4:p7≠pD
 n5:p6≠p7
 n6:l≠pD
 n7:l≠p6
 n8:l≠p7
 n9:l≠p3∧l≠p4∧l≠p9∧l≠p11
structure TAg (n q a b c e:Nat) (cr md:Int) (w:Nat) (lc:J9) (L:List (List C)) (pD l p6 p7 d v:Nat) (ts:Zx) (h0 h:Go.Ev.H):Prop where
 M:MhE n q a b c e cr md w false lc L h
 next:h0.next≤h.next
 hl:h.get l=some (.loop ts 96 [42] (q9 [1,1,1,1,1,1,0,1,2,5]) (q9 [1,1,1,1,1,1,0,1,2,6]) .done (some .ret) d)
 r6:h.get p6=some (.row 1 [[.int .i64 (v:Int)]] false)
 r7:h.get p7=some (.row 1 [[.int .i64 0]] false)
 keep:∀ m,m<h0.next→Off n q m→m≠l→m≠pD→m≠p6→m≠p7→h.get m=h0.get m
section
variable (Hh:Hearts K Tryz.prog)
include Hh
variable {n q a b c e w:Nat} {cr md:Int} {kn:Bool} {lc:J9} {L:List (List C)} {U:Nat→List Nat} {D:List Dq} {kq:Int} {g:Nat→Bool} {k t x0 i0 w0:Nat} {l p3 p4 p6 p7 p9 p11 pD d:Nat} {ts:Zx} {h:Go.Ev.H}
theorem Z3m (l:Nat) (ts:Zx) (k:Nat) (h:Go.Ev.H):Goes K Tryz.prog 96 (some l) (q9 [1,1,1,1,1,1,0,1,2,5]) [] (ts.set 42 (.w (.c (.int .i64 (k:Int))))) h fun x ds' ts' h'=>x=.normal∧ds'=[]∧(∀ s,s≤11→Zq ts' s=Zq ts s)∧Zq ts' 12=.w (.c (.int .i64 (k:Int)))∧h'=h:=by
 (apply Goes.ops2 fits Hh Zc; · simp (maxSteps:=9^6) +decide (disch:=first|omega|(simp only[lens]<;>omega)|decide) only [go_sem,Zf,Za,simprocAttr]<;>rfl)
 refine⟨rfl,rfl,fun s hs=>?_,?_,rfl⟩
 ·simp (decide:=true) only [Uv hs]
 ·simp (maxSteps:=9^6) +decide (disch:=first|omega|(simp only[lens]<;>omega)|decide) only [go_sem,Zf,Za,simprocAttr]
theorem Zqj (f:Jm a b c e=true) (wc:(w:Int)+3≤cr) (G:Grp a b c e lc L U D kq g k t x0 i0 w0) (T:TCg n q a b c e cr md w kn lc L D kq l p3 p4 p6 p7 p9 p11 pD ts h) (hl:h.get l=some (.loop ts 96 [42] (q9 [1,1,1,1,1,1,0,1,2,5]) (q9 [1,1,1,1,1,1,0,1,2,6]) .ready none d)) :
  ∃ E h',Sound K Tryz.prog E∧Gn E l (some [.c (.int .i64 (k:Int))]) h (some (.loop ts 96 [42] (q9 [1,1,1,1,1,1,0,1,2,5]) (q9 [1,1,1,1,1,1,0,1,2,6]) .ready none d))=some (.val (.w (.c (.bool false))) h')∧TAg n q a b c e cr md (w+3) (lcT b c e lc U D kq g k t x0 i0 w0) L pD l p6 p7 d (k * c+t+1) ts h h':=by
 obtain⟨xa,ds1,ts1,h1,kA,rfl,rfl,t1,t12,rfl⟩:=Z3m Hh l ts k h
 obtain⟨M,e3,e4,e6,e7,e9,e11,c3,c4,c6,c7,c9,c11,cD,b3,b4,b6,b7,b9,b11,bD,bl,n1,n2,n3,n4,n5,n6,n7,n8,n9⟩:=T
 obtain⟨nq,nx⟩:=M.nx
 have M':=M.keep (h2:=h1.put l (.loop ts 96 [42] (q9 [1,1,1,1,1,1,0,1,2,5]) (q9 [1,1,1,1,1,1,0,1,2,6]) .busy none d)) (by rw[H.Zg]; omega) (fun m hm=>by rw[Zp (by omega)])
 obtain⟨xb,ds2,ts2,h2,kB,rfl,nn,MB,kk,r6,r7⟩:=Z2l Hh f M' wc G (l:=l) (ts:=ts1) ((t1 3 (by decide)).trans e3) ((t1 4 (by decide)).trans e4) ((t1 6 (by decide)).trans e6) ((t1 7 (by decide)).trans e7) ((t1 9 (by decide)).trans e9) ((t1 11 (by decide)).trans e11) t12
  (by rw[Zp (Ne.symm n9.1)]; exact c3) (by rw[Zp (Ne.symm n9.2.1)]; exact c4) (by rw[Zp (Ne.symm n7)]; exact c6) (by rw[Zp (Ne.symm n8)]; exact c7) (by rw[Zp (Ne.symm n9.2.2.1)]; exact c9) (by rw[Zp (Ne.symm n9.2.2.2)]; exact c11) (by rw[Zp (Ne.symm n6)]; exact cD) b3 b4 b6 b7 b9 b11 bD bl n1 n2 n3 n4 n5
 have gl:=(kk l (by rw[H.Zg]; omega) ⟨by omega,by omega,by omega,by omega,by omega⟩ n6 n7 n8).trans (Z9 ..)
 have S:=Qn (Qn Zc kB) kA
 obtain⟨E,h3,S,rnd,rfl⟩:∃ E h3,Sound K Tryz.prog E∧Gn E l (some [.c (.int .i64 (k:Int))]) h1 (h1.get l)=some (.val (.w (.c (.bool false))) h3)∧h3=h2.put l (.loop ts 96 [42] (q9 [1,1,1,1,1,1,0,1,2,5]) (q9 [1,1,1,1,1,1,0,1,2,6]) .done (some .ret) d):=by
  refine⟨_,_,S,Za0 hl (by simp only[Gx]; rfl) (Zb7 ..) hl (Zn5 (fun e=>?_) |>.trans (Zb7 ..)) gl,rfl⟩
  have e1:=(Task.code.inj e).1
  rw[Ziz,Zi6] at e1
  cases e1
 rw[hl] at rnd
 refine⟨_,_,S,rnd,MB.keep (by rw[H.Zg]; omega) (fun m hm=>by rw[Zp (by omega)]),?_,Z9 ..,?_,?_,fun m m1 m2 m3 m4 m5 m6=>?_⟩
 ·rw[H.Zg] at nn ⊢
  exact nn
 ·rw[Zp (Ne.symm n7)]; exact r6
 ·rw[Zp (Ne.symm n8)]; exact r7
 ·rw[Zp m3,kk m (by rw[H.Zg]; exact m1) m2 m4 m5 m6,Zp m3]
theorem Zy8 (f:Jm a b c e=true) (wc:(w:Int)+3≤cr) {near:Int} (hk:Zaj a c near=k) (G:Grp a b c e lc L U D kq g k t x0 i0 w0) (T:TCg n q a b c e cr md w kn lc L D kq l p3 p4 p6 p7 p9 p11 pD ts h) (hl:h.get l=some (.loop ts 96 [42] (q9 [1,1,1,1,1,1,0,1,2,5]) (q9 [1,1,1,1,1,1,0,1,2,6]) .ready none d)) {pg pn:Nat} (hg:h.get pg=some (.row 4 [[.int .i64 (a:Int),.int .i64 (b:Int),.int .i64 (c:Int),.int .i64 (e:Int)]] false)) (hn:h.get pn=some (.row 1 [[.int .i64 near]] false)) :
  ∃ v h',Ze K Tryz.prog 85 [.c (.yield l),.c (.ptr pg 0),.c (.ptr pn 0)] h v h'∧TAg n q a b c e cr md (w+3) (lcT b c e lc U D kq g k t x0 i0 w0) L pD l p6 p7 d (k * c+t+1) ts h h':=by
 obtain⟨g1,g2,g3,g4,g5,g6,g7,g8,g9,g10,g11⟩:=Z0 f
 obtain⟨E,h2,S,rnd,A⟩:=Zqj Hh f wc G T hl
 have ka:=G.ka
 by_cases hv:1≤near∧near≤((a * c:Nat):Int)
 ·obtain⟨v1,v2⟩:=hv
  obtain⟨j,hj⟩:∃ j,near.toNat - 1=j:=⟨_,rfl⟩
  obtain rfl:near=((j+1:Nat):Int):=by omega
  have d1:=decide_eq_true v1
  have d2:=decide_eq_true v2
  have gk:Zaj a c ((j+1:Nat):Int)=j / c:=by unfold Zaj; rw[if_pos ⟨v1,v2⟩,hj]
  rw[gk] at hk
  have km:k % a=k:=Nat.mod_eq_of_lt ka
  have rm:Xt .i64 (k:Int) (a:Int)=some (.int .i64 (k:Int)):=by rw[Nf (by omega),km]
  have e0:(k:Int)+0=(k:Int):=Int.add_zero _
  refine Ze.Z8 fits Hh (by kernel_rfl) (by kernel_rfl) (by kernel_rfl) (show Tryz.f85.body=some _ from rfl) rfl ?_
  iterate 21 (first|apply Goes.seq|apply Goes.skip|apply Goes.block|apply Goes.loop|((first|apply Goes.Zr|apply Goes.ops2 fits Hh (Zh Zc (fun _ _ _ _=>Li Hh))); · simp (maxSteps:=9^6) +decide (disch:=first|omega|(simp only[lens]<;>omega)|decide) only [go_sem,Za,simprocAttr,f,hg,hn,hl,rd4,d1,d2,hj,hk,rm,e0,rnd,read1]<;>rfl))
  iterate 3 (first|apply Goes.ret|((first|apply Goes.Zr|apply Goes.ops2 fits Hh S); · simp (maxSteps:=9^6) +decide (disch:=first|omega|(simp only[lens]<;>omega)|decide) only [go_sem,Za,simprocAttr,f,hg,hn,hl,rd4,d1,d2,hj,hk,rm,e0,rnd,read1]<;>rfl))
  exact⟨_,_,(by simp (maxSteps:=9^6) +decide (disch:=first|omega|(simp only[lens]<;>omega)|decide) only [go_sem,Zf,Za,simprocAttr]<;>rfl),A⟩
 ·have gk:Zaj a c near=0:=by unfold Zaj; rw[if_neg hv]
  obtain rfl:k=0:=hk.symm.trans gk
  have rnd0:Gn E l (some [.c (.int .i64 0)]) h (some (.loop ts 96 [42] (q9 [1,1,1,1,1,1,0,1,2,5]) (q9 [1,1,1,1,1,1,0,1,2,6]) .ready none d))=some (.val (.w (.c (.bool false))) h2):=rnd
  have dd:(decide (1≤near)&&decide (near≤((a * c:Nat):Int)))=false:=by
   rw[←Bool.decide_and]
   exact decide_eq_false hv
  have rm:Xt .i64 0 (a:Int)=some (.int .i64 0):=by
   have:=Nf (k:=.i64) (a:=0) (b:=a) (by omega)
   rwa [Nat.zero_mod] at this
  refine Ze.Z8 fits Hh (by kernel_rfl) (by kernel_rfl) (by kernel_rfl) (show Tryz.f85.body=some _ from rfl) rfl ?_
  iterate 21 (first|apply Goes.seq|apply Goes.skip|apply Goes.block|apply Goes.loop|((first|apply Goes.Zr|apply Goes.ops2 fits Hh (Zh Zc (fun _ _ _ _=>Li Hh))); · simp (maxSteps:=9^6) +decide (disch:=first|omega|(simp only[lens]<;>omega)|decide) only [go_sem,Za,simprocAttr,f,hg,hn,hl,rd4,dd,rm,rnd0,read1]<;>rfl))
  iterate 3 (first|apply Goes.ret|((first|apply Goes.Zr|apply Goes.ops2 fits Hh S); · simp (maxSteps:=9^6) +decide (disch:=first|omega|(simp only[lens]<;>omega)|decide) only [go_sem,Za,simprocAttr,f,hg,hn,hl,rd4,dd,rm,rnd0,read1]<;>rfl))
  exact⟨_,_,(by simp (maxSteps:=9^6) +decide (disch:=first|omega|(simp only[lens]<;>omega)|decide) only [go_sem,Zf,Za,simprocAttr]<;>rfl),A⟩
theorem Zvw (f:Jm a b c e=true) (wc:(w:Int)+3≤cr) {near:Int} (hk:Zaj a c near=k) (G:Grp a b c e lc L U D kq g k t x0 i0 w0) {pg pn:Nat} (T:∀ h2 l,h.next<l→l<h2.next→(∀ m,m<h.next→h2.get m=h.get m)→TCg n q a b c e cr md w kn lc L D kq l p3 p4 p6 p7 p9 p11 pD ts h2) (nh:q+9≤h.next) (nq:n+23≤q) (p6h:p6<h.next) (p7h:p7<h.next) (pDh:pD<h.next)
  (hg:h.get pg=some (.row 4 [[.int .i64 (a:Int),.int .i64 (b:Int),.int .i64 (c:Int),.int .i64 (e:Int)]] false)) (hn:h.get pn=some (.row 1 [[.int .i64 near]] false)) (lg:pg<h.next) (ln:pn<h.next) (e41:Zq ts 41=.w (.c (.fn 85 [] [some (pg,0),some (pn,0)]))) :
  Goes K Tryz.prog 96 none (q9 [1,1,1,1,1,1,0,1,2]) [] ts h fun x ds' ts' h'=>x=.ret∧ts'=ts∧ds'=[h.next]∧h'.get h.next=some .defers∧h'.get p6=some (.row 1 [[.int .i64 ((k * c+t+1:Nat):Int)]] false)∧h'.get p7=some (.row 1 [[.int .i64 0]] false)∧MhE n q a b c e cr md (w+3) false (lcT b c e lc U D kq g k t x0 i0 w0) L h'∧h.next≤h'.next∧∀ m,m<h.next→Off n q m→m≠pD→m≠p6→m≠p7→h'.get m=h.get m:=by
 have g0:∀ (o:O) m,m<h.next→((h.new .defers).new o).get m=h.get m:=fun o m hm=>by rw[Y4 (by rw[H.Zd]; omega),Y4 (by omega)]
 have gd:∀ o:O,((h.new .defers).new o).get h.next=some .defers:=fun o=>by rw[Y4 (by rw[H.Zd]; omega),Bo]
 have T1:=T ((h.new .defers).new (.loop ts 96 [42] (q9 [1,1,1,1,1,1,0,1,2,5]) (q9 [1,1,1,1,1,1,0,1,2,6]) .ready none h.next)) (h.next+1) (by omega) (by simp only[H.Zd]; omega) (fun m hm=>g0 _ m hm)
 rw[Zk8]
 refine Goes.Zl1 fits Hh (f:=85) (first:=[]) (caps:=[some (pg,0),some (pn,0)]) (by simp only[Z4,Y5,e41,asC]) (exE (Zy8 Hh f wc hk G T1 (by rw[Eo (by simp only[H.Zd]; omega)]) ((g0 _ _ lg).trans hg) ((g0 _ _ ln).trans hn)) ?_)
 rintro v h3 A
 have an:=A.next
 simp only[H.Zd] at an
 refine⟨_,_,_,_,_,_,_,_,A.hl,by simp,?_⟩
 show _∧_∧_
 refine⟨rfl,rfl,rfl,?_,?_,?_,A.M.keep (by rw[H.Zg]; omega) (fun m hm=>by rw[Zp (by omega)]),by rw[H.Zg]; omega,fun m hm ho m1 m2 m3=>?_⟩
 ·rw[Zp (by omega),A.keep _ (by simp only[H.Zd]; omega) ⟨by omega,by omega,by omega,by omega,by omega⟩ (by omega) (by omega) (by omega) (by omega),gd]
 ·rw[Zp (by omega),A.r6]
 ·rw[Zp (by omega),A.r7]
 ·rw[Zp (by omega),A.keep m (by simp only[H.Zd]; omega) ho (by omega) m1 m2 m3,g0 _ _ hm]
theorem Zz9 (f:Jm a b c e=true) (M:MhE n q a b c e cr md w kn lc L h) (wc:(w:Int)+3≤cr) {near:Int} (hk:Zaj a c near=k) (G:Grp a b c e lc L U D kq g k t x0 i0 w0) {Y:List C} (hY:At lc L 1 Y) (Yl:Y.length=256) (bd:Zij Y=true) (gd:goodD (unN Y) a b c=true) (td:Bg (unN Y) a 0=D) :
  ∃ h',Ze K Tryz.prog 9 [.c (.ptr (n+13) 0),.c (.int .u8 kq),.c (.int .i64 near)] h (.tup [.c (.int .i64 ((k * c+t+1:Nat):Int)),.c (.int .i64 0)]) h'∧MhE n q a b c e cr md (w+3) false (lcT b c e lc U D kq g k t x0 i0 w0) L h'∧h.next≤h'.next∧∀ m,m<h.next→Off n q m→h'.get m=h.get m:=by
 obtain⟨g1,g2,g3,g4,g5,g6,g7,g8,g9,g10,g11⟩:=Z0 f
 have kk:=G.kk
 have ek:(kq != 1&&kq != 2)=false:=by rcases kk with rfl|rfl<;>rfl
 have hsg:∀ {h:Go.Ev.H},MhE n q a b c e cr md w kn lc L h→h.get (n+13)=some (.row 8 [stL (stG n q kn)] false)∧h.get (n+12)=some (.row 9 [gdL (gdN n a b c e md)] false)∧h.get (n+20)=some (.row 13 [txL (txG n q cr)] false):=fun M=>by
  obtain⟨lt,lm,_,_,_,_,_,_,M⟩:=M
  exact⟨M.hs,M.hg,M.ht⟩
 obtain⟨nq,nx⟩:=M.nx
 obtain⟨hs,gl,ht⟩:=hsg M
 unfold gdL gdN at gl
 obtain⟨v,h',cc,rfl,M',nn,kx⟩:∃ v h',Ze K Tryz.prog 9 [.c (.ptr (n+13) 0),.c (.int .u8 kq),.c (.int .i64 near)] h v h'∧v=.tup [.c (.int .i64 ((k * c+t+1:Nat):Int)),.c (.int .i64 0)]∧MhE n q a b c e cr md (w+3) false (lcT b c e lc U D kq g k t x0 i0 w0) L h'∧h.next≤h'.next∧∀ m,m<h.next→Off n q m→h'.get m=h.get m:=by
  obtain⟨kv,hkv⟩:∃ kv,kv=kq:=⟨_,rfl⟩
  rcases kk with rfl|rfl
  all_goals
   refine Ze.Z8 fits Hh (by kernel_rfl) (by kernel_rfl) (by kernel_rfl) (show Tryz.f9.body=some _ from rfl) rfl ?_
   iterate 15 (first|apply Goes.seq|apply Goes.skip|((first|apply Goes.Zr|apply Goes.ops2 fits Hh (Zh Zc (fun _ _ _ _=>Tf Hh))); · simp (maxSteps:=9^6) +decide (disch:=first|omega|(simp only[lens]<;>omega)|decide) only [go_sem,Zf,Za,simprocAttr,f,hs,stG,gl,ht,txG,read1,Zw]<;>rfl))
   refine Goes.abs fun hA eA=>?_
   have nA:hA.next=h.next+1+1+1+1:=by rw[eA]; simp only[H.Zg,H.Zd]
   have kA:∀ m,m<h.next→hA.get m=h.get m:=fun m hm=>by rw[eA]; (first|(simp (discharger:=omega) only [H.get_put,H.Zi,H.Zm,H.Zd,H.Zg,H.Zj,if_neg]; done)|(simp only[H.get_put,H.Zi,H.Zm,H.Zd,H.Zg,H.Zj]; (repeat' split)<;>first|rfl|(exfalso; omega)|omega))
   have a3:hA.get h.next=some (.row 1 [[.ptr (n+13) 0]] false):=by rw[eA]; simp (maxSteps:=9^6) +decide (disch:=first|omega|(simp only[lens]<;>omega)|decide) only [go_sem,Zf,Za,simprocAttr]<;>rfl
   have a4:hA.get (h.next+1)=some (.row 1 [[.int .u8 kv]] false):=by rw[eA,hkv]; simp (maxSteps:=9^6) +decide (disch:=first|omega|(simp only[lens]<;>omega)|decide) only [go_sem,Zf,Za,simprocAttr]<;>rfl
   have a6:hA.get (h.next+1+1)=some (.row 1 [[.int .i64 0]] false):=by rw[eA]; simp (maxSteps:=9^6) +decide (disch:=first|omega|(simp only[lens]<;>omega)|decide) only [go_sem,Zf,Za,simprocAttr]<;>rfl
   have a7:hA.get (h.next+1+1+1)=some (.row 1 [[.int .i64 0]] false):=by rw[eA]; simp (maxSteps:=9^6) +decide (disch:=first|omega|(simp only[lens]<;>omega)|decide) only [go_sem,Zf,Za,simprocAttr]<;>rfl
   clear eA
   subst hkv
   have MA:=M.keep (h2:=hA) (by omega) (fun m hm=>kA m (by omega))
   obtain⟨hB,pD,k6,MB,pD1,pD2,cD,kB⟩:=Zst Hh f MA hY Yl bd gd td G.Dl
   obtain⟨hsB,glB,_⟩:=hsg MB
   unfold gdL gdN at glB
   have b3:=(kB h.next (by omega) (by omega)).trans a3
   have b4:=(kB (h.next+1) (by omega) (by omega)).trans a4
   have b6:=(kB (h.next+1+1) (by omega) (by omega)).trans a6
   have b7:=(kB (h.next+1+1+1) (by omega) (by omega)).trans a7
   iterate 7 (first|apply Goes.seq|apply Goes.skip|((first|apply Goes.Zr|apply Goes.ops2 fits Hh (Zy Zc k6)); · simp (maxSteps:=9^6) +decide (disch:=first|omega|(simp only[lens]<;>omega)|decide) only [go_sem,Zf,Za,simprocAttr,Z7,f,hs,stG,gl,ht,txG,a3,hsB,glB,b3,b4,read1,Zw]<;>rfl))
   iterate 5 (first|apply Goes.seq|apply Goes.block|(apply Goes.ops2 fits Hh (Zh (Zh Zc (fun _ _ _ _=>U6 Hh)) (fun _ _ _ _=>Zrw Hh)); · simp (maxSteps:=9^6) +decide (disch:=first|omega|(simp only[lens]<;>omega)|decide) only [go_sem,Zf,Za,simprocAttr,f,hs,stG,gl,ht,txG,a3,hsB,glB,b3,b4,read1,Zw]<;>rfl))
   refine Goes.abs fun hC eC=>?_
   have nC:hC.next=hB.next+1+1+1+1:=by rw[eC]; simp only[H.Zg,H.Zd]
   have kC:∀ m,m<hB.next→hC.get m=hB.get m:=fun m hm=>by rw[eC]; (first|(simp (discharger:=omega) only [H.get_put,H.Zi,H.Zm,H.Zd,H.Zg,H.Zj,if_neg]; done)|(simp only[H.get_put,H.Zi,H.Zm,H.Zd,H.Zg,H.Zj]; (repeat' split)<;>first|rfl|(exfalso; omega)|omega))
   have c9:hC.get hB.next=some (.row 1 [[.slice pD 0 a 3]] false):=by rw[eC]; simp (maxSteps:=9^6) +decide (disch:=first|omega|(simp only[lens]<;>omega)|decide) only [go_sem,Zf,Za,simprocAttr]<;>rfl
   have c11:hC.get (hB.next+1)=some (.row 4 [[.int .i64 (a:Int),.int .i64 (b:Int),.int .i64 (c:Int),.int .i64 (e:Int)]] false):=by rw[eC]; simp (maxSteps:=9^6) +decide (disch:=first|omega|(simp only[lens]<;>omega)|decide) only [go_sem,Zf,Za,simprocAttr]<;>rfl
   have cg:hC.get (hB.next+1+1)=some (.row 4 [[.int .i64 (a:Int),.int .i64 (b:Int),.int .i64 (c:Int),.int .i64 (e:Int)]] false):=by rw[eC]; simp (maxSteps:=9^6) +decide (disch:=first|omega|(simp only[lens]<;>omega)|decide) only [go_sem,Zf,Za,simprocAttr]<;>rfl
   have cn:hC.get (hB.next+1+1+1)=some (.row 1 [[.int .i64 near]] false):=by rw[eC]; simp (maxSteps:=9^6) +decide (disch:=first|omega|(simp only[lens]<;>omega)|decide) only [go_sem,Zf,Za,simprocAttr]<;>rfl
   clear eC
   have nB:=MB.nx.2
   have MC:=MB.keep (h2:=hC) (by omega) (fun m hm=>kC m (by omega))
   refine (Zvw Hh (h:=hC) (n:=n) (md:=md) (kn:=kn) f wc hk G (p3:=h.next) (p4:=h.next+1) (p6:=h.next+1+1) (p7:=h.next+1+1+1) (p9:=hB.next) (p11:=hB.next+1) (pD:=pD) (pg:=hB.next+1+1) (pn:=hB.next+1+1+1) ?_ (by omega) nq (by omega) (by omega) (by omega) cg cn (by omega) (by omega) ?_).mono ?_
   ·intro h2 l l1 l2 k2
    refine⟨MC.keep (by omega) (fun m hm=>k2 m (by omega)),?_,?_,?_,?_,?_,?_,(k2 _ (by omega)).trans ((kC _ (by omega)).trans b3),(k2 _ (by omega)).trans ((kC _ (by omega)).trans b4),(k2 _ (by omega)).trans ((kC _ (by omega)).trans b6),(k2 _ (by omega)).trans ((kC _ (by omega)).trans b7),(k2 _ (by omega)).trans c9,(k2 _ (by omega)).trans c11,(k2 _ (by omega)).trans ((kC _ (by omega)).trans cD),?_,?_,?_,?_,?_,?_,?_,?_,?_,?_,?_,?_,?_,?_,?_,?_,?_⟩
    all_goals (first|omega|(simp (decide:=true) only [Zn,reduceIte]))
   ·simp (decide:=true) only [Zn,reduceIte]
   rintro x ds' ts' h' ⟨rfl,rfl,rfl,gd',r6,r7,MM,nn,kk⟩
   refine⟨_,_,(by simp (maxSteps:=9^6) +decide (disch:=first|omega|(simp only[lens]<;>omega)|decide) only [go_sem,Zf,Za,simprocAttr,gd',r6,r7,read1]<;>rfl),rfl,MM.keep ?_ (fun m hm=>?_),?_,fun m hm ho=>?_⟩
   ·simp only[H.Zg,H.Zd,H.Zj]<;>omega
   ·(first|(simp (discharger:=omega) only [H.get_put,H.Zi,H.Zm,H.Zd,H.Zg,H.Zj,if_neg]; done)|(simp only[H.get_put,H.Zi,H.Zm,H.Zd,H.Zg,H.Zj]; (repeat' split)<;>first|rfl|(exfalso; omega)|omega))
   ·simp only[H.Zg,H.Zd,H.Zj]<;>omega
   ·refine Eq.trans ?_ ((kk m (by omega) ho (by omega) (by omega) (by omega)).trans ((kC m (by omega)).trans ((kB m (by omega) ho.1).trans (kA m hm)))); (first|(simp (discharger:=omega) only [H.get_put,H.Zi,H.Zm,H.Zd,H.Zg,H.Zj,if_neg]; done)|(simp only[H.get_put,H.Zi,H.Zm,H.Zd,H.Zg,H.Zj]; (repeat' split)<;>first|rfl|(exfalso; omega)|omega))
 exact⟨h',cc,M',nn,kx⟩
end
end Go.Proofs.YtngejdlimkgjfaaGreatDoor
