/- bits.Clear of a bit that is set. -/
import Derived.Test.YtngejdlimkgjfaaGreatDoorX24
import Derived.Test.YtngejdlimkgjfaaGreatDoorIqa
set_option linter.unusedSimpArgs false
set_option linter.unusedVariables false
set_option linter.unusedSectionVars false
set_option maxRecDepth 100000
namespace Go.Proofs.YtngejdlimkgjfaaGreatDoor
open Go.Ev
theorem rs45:Tryz.f45.results.toList=[.tmp 4]:=rfl
attribute [go_sem] rs45
theorem andn8:∀ b0 b1 b2 b3 b4 b5 b6 b7:Bool,∀ j:Fin 8,Nat.land (b8 b0 b1 b2 b3 b4 b5 b6 b7) (255 - 2 ^ j.1)=b8 (b0&&!decide (j.1=0)) (b1&&!decide (j.1=1)) (b2&&!decide (j.1=2)) (b3&&!decide (j.1=3)) (b4&&!decide (j.1=4)) (b5&&!decide (j.1=5)) (b6&&!decide (j.1=6)) (b7&&!decide (j.1=7)):=by decide +kernel
def Zgt (g:Nat→Bool) (i:Nat):Nat→Bool:=fun j=>g j&&!decide (j=i)
theorem Z1t (g:Nat→Bool) (i:Nat):Nat.land (byB g (i / 8)) (255 - 2 ^ (i % 8))=byB (Zgt g i) (i / 8):=by
 have:=andn8 (g (8 * (i / 8))) (g (8 * (i / 8)+1)) (g (8 * (i / 8)+2)) (g (8 * (i / 8)+3)) (g (8 * (i / 8)+4)) (g (8 * (i / 8)+5)) (g (8 * (i / 8)+6)) (g (8 * (i / 8)+7)) ⟨i % 8,by omega⟩
 refine this.trans ?_
 have e:=Nat.div_add_mod i 8
 unfold byB Zgt
 have q:∀ k,k<8→decide (i % 8=k)=decide (8 * (i / 8)+k=i):=fun k hk=>by
  rw[decide_eq_decide]
  omega
 have q0:=q 0 (by omega)
 rw[Nat.add_zero] at q0
 simp only[q0,q 1 (by omega),q 2 (by omega),q 3 (by omega),q 4 (by omega),q 5 (by omega),q 6 (by omega),q 7 (by omega)]
theorem Zis (g:Nat→Bool) (i t:Nat) (h:t≠i / 8):byB (Zgt g i) t=byB g t:=by
 unfold byB Zgt
 have q:∀ k,k<8→decide (8 * t+k=i)=false:=fun k hk=>decide_eq_false (by omega)
 have q0:=q 0 (by omega)
 rw[Nat.add_zero] at q0
 simp only[q0,q 1 (by omega),q 2 (by omega),q 3 (by omega),q 4 (by omega),q 5 (by omega),q 6 (by omega),q 7 (by omega),Bool.not_false,Bool.and_true]
theorem Zuw (g:Nat→Bool) (i:Nat) (hi:i<2048):(Yy g).set (i / 8) (.int .u8 ((Nat.land (byB g (i / 8)) (255 - 2 ^ (i % 8)):Nat):Int))=Yy (Zgt g i):=by
 refine List.ext_getElem (by simp [Yy]) fun t h1 h2=>?_
 rw[List.getElem_set]
 simp only[Yy,List.getElem_map,List.getElem_range]
 by_cases e:i / 8=t
 ·rw[if_pos e,Z1t,e]
 ·rw[if_neg e,Zis _ _ _ (fun x=>e x.symm)]
section
variable (Hh:Hearts K Tryz.prog)
include Hh
theorem Z0q (h:Go.Ev.H) (b i:Nat) (g:Nat→Bool) (hi:i<2048) (hg:g i=true) (hb:h.get b=some (.row 256 [Yy g] false)):Ze K Tryz.prog 45 [.c (.ptr b 0),.c (.int .i64 i)] h (.w (.c (.bool true))) (h.put b (.row 256 [Yy (Zgt g i)] false)):=by
 have c1:=isOk Hh h i hi
 have c2:=Zlh Hh h i
 have q1:M0 .i64 (i:Int) 8=some (.int .i64 ((i / 8:Nat):Int)):=L6 (b:=8) (by omega) (by omega)
 have rd:read1 256 [Yy g] (i / 8)=some (.int .u8 ((byB g (i / 8):Nat):Int)):=by
  unfold read1
  rw[Nat.div_eq_of_lt (by omega),Nat.mod_eq_of_lt (by omega),List.getElem?_cons_zero]
  exact Zdu g _ (by omega)
 have wr:Z5 256 [Yy g] (i / 8) [.int .u8 ((Nat.land (byB g (i / 8)) (255 - 2 ^ (i % 8)):Nat):Int)]=some [Yy (Zgt g i)]:=by
  simp only[Z5]
  rw[Nat.div_eq_of_lt (by omega),Nat.mod_eq_of_lt (by omega),List.getElem?_cons_zero]
  simp only[U3]
  rw[Zez (by omega),cond_true,Zuw g i hi]
  rfl
 have p1:0<2 ^ (i % 8):=Nat.pow_pos (by omega)
 have l1:Bh .u8 Nat.land ((byB g (i / 8):Nat):Int) ((2 ^ (i % 8):Nat):Int)=.int .u8 ((2 ^ (i % 8):Nat):Int):=by
  rw[Zkf (Mt _ _) (Qo _) (land256 (Mt _ _)),Zca,hg]
  rfl
 have l2:Bh .u8 (fun a b=>Nat.land a (255 - b)) ((byB g (i / 8):Nat):Int) ((2 ^ (i % 8):Nat):Int)=.int .u8 ((Nat.land (byB g (i / 8)) (255 - 2 ^ (i % 8)):Nat):Int):=Zkf (f:=fun a b=>Nat.land a (255 - b)) (Mt _ _) (Qo _) (land256 (Mt _ _))
 have e1:(((2 ^ (i % 8):Nat):Int) == 0)=false:=Zhi (by exact_mod_cast (Nat.pos_iff_ne_zero.1 p1))
 refine Ze.goes fits Hh (by kernel_rfl) (by kernel_rfl) (by kernel_rfl) (show Tryz.f45.body=some _ from rfl) rfl ?_
 iterate 4 (first|apply Goes.seq|(apply Goes.ops2 fits Hh Zc; · simp (maxSteps:=9^6) +decide (disch:=first|omega|(simp only[lens]<;>omega)|decide) only [go_sem,Zf,Za,simprocAttr,q1,rd,wr,l1,l2,hb,e1]<;>rfl))
 iterate 4 (first|apply Goes.seq|apply Goes.skip|(apply Goes.Zr; · simp (maxSteps:=9^6) +decide (disch:=first|omega|(simp only[lens]<;>omega)|decide) only [go_sem,Zf,Za,simprocAttr,Z7,q1,rd,wr,l1,l2,hb,e1]<;>rfl)|(apply Goes.drawn2 fits Hh (Zy (Zy Zc c1) c2) (by kernel_rfl); · simp (maxSteps:=9^6) +decide (disch:=first|omega|(simp only[lens]<;>omega)|decide) only [go_sem,Zf,Za,simprocAttr,Js,Y2,Jd,Jo,Yv,Jp,Jf,Ye,Ja,Jr,Ux,Jg,Ya,Ym,Yh,Yg,Je,Yt,Y0,Yd,Yu,Jb,Oy,U8,Oj,Ee,Ep,Ue,Ug,Jn,Om,Uj,Ur,Jq,Y1,Uo,looks,O5,Op.operands,Call.operands,kd,Ud,List.filterMap_cons,List.filterMap_nil,List.append_nil,List.nil_append,List.cons_append,Ji,stable,Jl,J4,Jt,waits,Yr,List.all_cons,List.all_nil,List.any_cons,List.any_nil,Region.binds,Bool.or_true,Bool.true_or,Bool.and_true,Bool.true_and,Bool.or_false,Bool.false_or,Bool.and_self,Bool.or_self,Jc,Nat.le_refl,Nat.le_add_right,List.map_cons,Array.toList_append,Z7,q1,rd,wr,l1,l2,hb,e1]<;>rfl))
 iterate 4 (first|apply Goes.seq|apply Goes.ret|(apply Goes.ops2 fits Hh (Zy Zc c2); · simp (maxSteps:=9^6) +decide (disch:=first|omega|(simp only[lens]<;>omega)|decide) only [go_sem,Zf,Za,simprocAttr,Z7,q1,rd,wr,l1,l2,hb,e1]<;>rfl)|(apply Goes.drawn2 fits Hh (Zy Zc c2) (by kernel_rfl); · simp (maxSteps:=9^6) +decide (disch:=first|omega|(simp only[lens]<;>omega)|decide) only [go_sem,Zf,Za,simprocAttr,Js,Y2,Jd,Jo,Yv,Jp,Jf,Ye,Ja,Jr,Ux,Jg,Ya,Ym,Yh,Yg,Je,Yt,Y0,Yd,Yu,Jb,Oy,U8,Oj,Ee,Ep,Ue,Ug,Jn,Om,Uj,Ur,Jq,Y1,Uo,looks,O5,Op.operands,Call.operands,kd,Ud,List.filterMap_cons,List.filterMap_nil,List.append_nil,List.nil_append,List.cons_append,Ji,stable,Jl,J4,Jt,waits,Yr,List.all_cons,List.all_nil,List.any_cons,List.any_nil,Region.binds,Bool.or_true,Bool.true_or,Bool.and_true,Bool.true_and,Bool.or_false,Bool.false_or,Bool.and_self,Bool.or_self,Jc,Nat.le_refl,Nat.le_add_right,List.map_cons,Array.toList_append,Z7,q1,rd,wr,l1,l2,hb,e1]<;>rfl))
 simp (maxSteps:=9^6) +decide (disch:=first|omega|(simp only[lens]<;>omega)|decide) only [go_sem,Zf,Za,simprocAttr,q1,rd,wr,l1,l2,hb,e1]<;>rfl
end
end Go.Proofs.YtngejdlimkgjfaaGreatDoor
set_option maxRecDepth 100000
set_option maxHeartbeats 4000000
namespace Go.Proofs.YtngejdlimkgjfaaGreatDoor
open Go.Ev
theorem rs11:Tryz.f11.results.toList=[.tmp 4]:=rfl
attribute [go_sem] rs11
theorem rs46:Tryz.f46.results.toList=[]:=rfl
attribute [go_sem] rs46
def Zar (kq w:Int):Int:=if kq=2 then w - 1 else w
theorem Zsa {dt ino:Nat} {r:List C} (hr:Zvk dt ino r=true):∀ {D:List Dq} {k:Nat},D.all (Tv dt ino)=true→k<D.length→Ze8 dt ino ((D.map Oh).set k r)=true
 | [],k,_,hk=>by simp at hk
 | d :: D,0,_,_=>by
  show (Zvk dt ino r || _)=true
  rw[hr]; rfl
 | d :: D,k+1,h,hk=>by
  rw[List.all_cons,Bool.and_eq_true] at h
  show (Zvk dt ino (Oh d) || Zrs dt ino (Oh d)&&Ze8 dt ino ((D.map Oh).set k r))=true
  rw[Zsa hr h.2 (by simpa using hk)]
  obtain⟨h1,h2,h3⟩:=Ni h.1
  have:Zrs dt ino (Oh d)=true:=by
   show (decide _&&decide _&&decide _&&decide _&&decide _&&decide _)=true
   rw[decide_eq_true (by omega),decide_eq_true (by omega),decide_eq_true (by omega),decide_eq_true (by omega),decide_eq_true (by omega),decide_eq_true (by omega)]
   rfl
  rw[this,Bool.true_and,Bool.or_true]
section
variable (Hh:Hearts K Tryz.prog)
include Hh
theorem Z27 {h:Go.Ev.H} {p q k:Nat} {Z:List (List C)} {ro:Bool} {x y w kq:Int} {o:List C} (hq:h.get q=some (.row 16 [o] ro)) (ok:o[0]? = some (.int .u8 kq)) (hp:h.get p=some (.row 3 Z false)) (hk:Z[k]? = some [.int .i64 x,.int .i64 y,.int .i64 w]) (y1:0≤y∧y<4096) (w2:0≤w∧w<4096) (pq:p≠q):Ze K Tryz.prog 46 [.c (.ptr p (k * 3)),.c (.ptr q 0)] h (.tup []) (h.put p (.row 3 (Z.set k [.int .i64 x,.int .i64 (y+1),.int .i64 (Zar kq w)]) false)):=by
 have kl:k<Z.length:=by
  rcases Nat.lt_or_ge k Z.length with h1|h1
  ·exact h1
  ·rw[List.getElem?_eq_none h1] at hk; cases hk
 have r1:read1 3 Z (k * 3+1)=some (.int .i64 y):=Zc2 (sz:=3) (j:=1) (by omega) hk
 have w1:Z5 3 Z (k * 3+1) [.int .i64 (y+1)]=some (Z.set k [.int .i64 x,.int .i64 (y+1),.int .i64 w]):=Lp hk rfl (by omega)
 have hr2:(Z.set k [.int .i64 x,.int .i64 (y+1),.int .i64 w])[k]? = some [.int .i64 x,.int .i64 (y+1),.int .i64 w]:=List.getElem?_set_self kl
 have r2:read1 3 (Z.set k [.int .i64 x,.int .i64 (y+1),.int .i64 w]) (k * 3+2)=some (.int .i64 w):=Zc2 (sz:=3) (j:=2) (by omega) hr2
 have w2':Z5 3 (Z.set k [.int .i64 x,.int .i64 (y+1),.int .i64 w]) (k * 3+2) [.int .i64 (w - 1)]=some (Z.set k [.int .i64 x,.int .i64 (y+1),.int .i64 (w - 1)]):=by
  rw[Lp (sz:=3) hr2 rfl (by omega),List.set_set]; rfl
 have rq:read1 16 [o] 0=some (.int .u8 kq):=by
  unfold read1
  rw[show 0 / 16=0 by omega,show 0 % 16=0 by omega,List.getElem?_cons_zero]
  exact ok
 have pp:=@H.Vt
 obtain⟨v,h',cc,rfl,rfl⟩:∃ v h',Ze K Tryz.prog 46 [.c (.ptr p (k * 3)),.c (.ptr q 0)] h v h'∧v=.tup []∧h'=h.put p (.row 3 (Z.set k [.int .i64 x,.int .i64 (y+1),.int .i64 (Zar kq w)]) false):=by
  by_cases k2:kq=2
  ·subst k2
   have e2:Zar 2 w=w - 1:=rfl
   rw[e2]
   refine Ze.Z8 fits Hh (by kernel_rfl) (by kernel_rfl) (by kernel_rfl) (show Tryz.f46.body=some _ from rfl) rfl ?_
   repeat (first|apply Goes.seq|apply Goes.block|apply Goes.loop|apply Goes.skip|apply Goes.exit|apply Goes.ret|((first|apply Goes.Zr|apply Goes.ops2 fits Hh Zc); · simp (maxSteps:=9^6) +decide (disch:=first|omega|(simp only[lens]<;>omega)|decide) only [go_sem,Zf,Za,simprocAttr,hq,hp,r1,w1,r2,w2',rq,pp]<;>rfl))
   exact⟨_,_,(by simp (maxSteps:=9^6) +decide (disch:=first|omega|(simp only[lens]<;>omega)|decide) only [go_sem,Zf,Za,simprocAttr,pp]<;>rfl),rfl,rfl⟩
  ·have e2:Zar kq w=w:=if_neg k2
   rw[e2]
   refine Ze.Z8 fits Hh (by kernel_rfl) (by kernel_rfl) (by kernel_rfl) (show Tryz.f46.body=some _ from rfl) rfl ?_
   repeat (first|apply Goes.seq|apply Goes.block|apply Goes.loop|apply Goes.skip|apply Goes.exit|apply Goes.ret|((first|apply Goes.Zr|apply Goes.ops2 fits Hh Zc); · simp (maxSteps:=9^6) +decide (disch:=first|omega|(simp only[lens]<;>omega)|decide) only [go_sem,Zf,Za,simprocAttr,hq,hp,r1,w1,rq,pp]<;>rfl))
   exact⟨_,_,(by simp (maxSteps:=9^6) +decide (disch:=first|omega|(simp only[lens]<;>omega)|decide) only [go_sem,Zf,Za,simprocAttr,pp]<;>rfl),rfl,rfl⟩
 exact cc
variable {n q a b c e w:Nat} {cr md:Int} {kn:Bool} {lc:J9} {L:List (List C)} {h:Go.Ev.H}
theorem Z45 (f:Jm a b c e=true) (M:MhE n q a b c e cr md w kn lc L h) (wc:(w:Int)+3≤cr) {k t j:Nat} (hj:k * c+t=j) (ka:k<a) (tc:t<c) {g:Nat→Bool} (gt:g t=true) (bm:At lc L (2+e+k * b+1) (Yy g))
  {Y:List C} (hY:At lc L 1 Y) (Yl:Y.length=256) (bd:Zij Y=true) (gd:goodD (unN Y) a b c=true) {D:List Dq} (td:Bg (unN Y) a 0=D) (Dl:D.length=a) {x0 i0 w0:Nat} (hk:D[k]? = some (x0,i0,w0)) (Dm:D.all (Tv (b - 2 - c / 4) c)=true)
  (Dm1:(D.set k (x0,i0+1,w0)).all (Tv (b - 2 - c / 4) c)=true) (i1:i0<4095)
  {U:Nat→List Nat} (see:Zdc a b c e lc L U) {o ps:List C} {kq gn:Int} {z:Bool} (ol:o.length=16) (o0:o[0]? = some (.int .u8 kq)) (o2:o[2]? = some (.int .u32 gn)) (gb:0≤gn∧gn<4294967296) (kk:kq=0∨kq=1∨kq=2) (r11:Zf 16 [o] 4 11=some ps) (pl:ps.length=11) (hz:Yo ps [.int .u32 0,.int .u32 0,.int .u32 0,.int .u32 0,.int .u32 0,.int .u32 0,.int .u32 0,.int .u32 0,.int .u32 0,.int .u32 0,.int .u32 0]=some z) (old:gI a b c e U ((j+1:Nat):Int)=(o,0)) :
  ∃ h' r kn' w' lc',Ze K Tryz.prog 11 [.c (.ptr (n+13) 0),.c (.int .i64 ((j+1:Nat):Int))] h (.w (.c (.int .i64 r))) h'∧MhE n q a b c e cr md w' kn' lc' L h'∧w'≤w+3∧h.next≤h'.next∧(∀ m,m<h.next→Off n q m→h'.get m=h.get m)∧(kq=1→z=true→r=0):=by
 obtain⟨g1,g2,g3,g4,g5,g6,g7,g8,g9,g10,g11⟩:=Z0 f
 have st:=Uf (b:=b) ka
 have sc:=Uf (b:=c) ka
 have kj:j / c=k:=by rw[←hj,Nat.mul_comm,Nat.mul_add_div (by omega),Nat.div_eq_of_lt tc,Nat.add_zero]
 have mj:j % c=t:=by rw[←hj,Nat.mul_comm,Nat.mul_add_mod,Nat.mod_eq_of_lt tc]
 have jl:j<a * c:=by omega
 obtain⟨zb,hb⟩:∃ z,2+e+k * b+1=z:=⟨_,rfl⟩
 rw[hb] at bm
 have zbl:zb<2+e+a * b:=by omega
 have ob:=T9 (z:=zb) (Z0 f) (by omega) zbl
 have t1:((j+1:Nat):Int).toNat - 1=j:=by omega
 have d1:decide (1≤((j+1:Nat):Int))=true:=decide_eq_true (by omega)
 have d2:decide (((j+1:Nat):Int)≤((a * c:Nat):Int))=true:=decide_eq_true (by omega)
 obtain⟨nq,nx⟩:=M.nx
 have hsg:∀ {h:Go.Ev.H},MhE n q a b c e cr md w kn lc L h→h.get (n+13)=some (.row 8 [stL (stG n q kn)] false)∧h.get (n+12)=some (.row 9 [gdL (gdN n a b c e md)] false)∧h.get (n+20)=some (.row 13 [txL (txG n q cr)] false):=fun M=>by
  obtain⟨lt,lm,_,_,_,_,_,_,M⟩:=M
  exact⟨M.hs,M.hg,M.ht⟩
 obtain⟨hs,gl,ht⟩:=hsg M
 unfold gdL gdN at gl
 have bl1:(Yy g).length=256:=U3 _
 have bf1:(Yy g).all C.flat=true:=by simp [Yy,C.flat]
 have ml:(Yy (Zgt g t)).length=256:=U3 _
 have mf:(Yy (Zgt g t)).all C.flat=true:=by simp [Yy,C.flat]
 have hG2:=fun {h:Go.Ev.H} (M:MhE n q a b c e cr md w kn lc L h)=>Z2c Hh f M.rs see ((j+1:Nat):Int)
 simp only[old] at hG2
 have hGE:=fun {h:Go.Ev.H} (M:MhE n q a b c e cr md w kn lc L h)=>M.get f ob zbl bm bl1 bf1
 obtain⟨B,hB⟩:∃ B,Yy g=B:=⟨_,rfl⟩
 simp only[hB] at hGE bl1 bf1
 have Zk:(D.map Oh)[k]? = some [.int .i64 (x0:Int),.int .i64 (i0:Int),.int .i64 (w0:Int)]:=by rw[List.getElem?_map,hk]; rfl
 have kD:k<D.length:=by omega
 have dk:=Ni (List.all_eq_true.1 Dm (x0,i0,w0) (List.mem_of_getElem? hk))
 have dk1:=Ni (List.all_eq_true.1 Dm1 (x0,i0+1,w0) (List.mem_of_getElem? (List.getElem?_set_self kD)))
 simp only at dk dk1
 obtain⟨v,h',cc,r,kn',w',lc',rfl,M',wl,nn,kx,rr⟩:∃ v h',Ze K Tryz.prog 11 [.c (.ptr (n+13) 0),.c (.int .i64 ((j+1:Nat):Int))] h v h'∧∃ r kn' w' lc',v=.w (.c (.int .i64 r))∧MhE n q a b c e cr md w' kn' lc' L h'∧w'≤w+3∧h.next≤h'.next∧(∀ m,m<h.next→Off n q m→h'.get m=h.get m)∧(kq=1→z=true→r=0):=by
  refine Ze.Z8 fits Hh (by kernel_rfl) (by kernel_rfl) (by kernel_rfl) (show Tryz.f11.body=some _ from rfl) rfl ?_
  iterate 19 (first|apply Goes.seq|apply Goes.skip|((first|apply Goes.Zr|apply Goes.ops2 fits Hh (Zh (Zh (Zh Zc (fun _ _ _ _=>Tf Hh)) (fun _ _ _ _=>U6 Hh)) (fun _ _ _ _=>Li Hh))); · simp (maxSteps:=9^6) +decide (disch:=first|omega|(simp only[lens]<;>omega)|decide) only [go_sem,Za,simprocAttr,f,hs,stG,gl,ht,txG,Y6,t1,d1,d2,kj,mj,hb,rd4,ol,bl1,read1,Zw]<;>rfl))
  refine Goes.abs fun hA eA=>?_
  have nA:hA.next=h.next+1:=by rw[eA]; simp only[H.Zg,H.Zd]
  have kA:∀ m,m<h.next→hA.get m=h.get m:=fun m hm=>by rw[eA]; (first|(simp (discharger:=omega) only [H.get_put,H.Zi,H.Zm,H.Zd,H.Zg,H.Zj,if_neg]; done)|(simp only[H.get_put,H.Zi,H.Zm,H.Zd,H.Zg,H.Zj]; (repeat' split)<;>first|rfl|(exfalso; omega)|omega))
  have a6:hA.get h.next=some (.row 4 [[.int .i64 (a:Int),.int .i64 (b:Int),.int .i64 (c:Int),.int .i64 (e:Int)]] false):=by rw[eA]; simp (maxSteps:=9^6) +decide (disch:=first|omega|(simp only[lens]<;>omega)|decide) only [go_sem,Zf,Za,simprocAttr]<;>rfl
  clear eA
  have MA:=M.keep (h2:=hA) (by omega) (fun m hm=>kA m (by omega))
  obtain⟨hB',pD,k1,MB,pD1,pD2,cD,kB⟩:=Zst Hh f MA hY Yl bd gd td Dl
  iterate 7 (first|apply Goes.seq|apply Goes.skip|((first|apply Goes.Zr|apply Goes.ops2 fits Hh (Zy Zc k1)); · simp (maxSteps:=9^6) +decide (disch:=first|omega|(simp only[lens]<;>omega)|decide) only [go_sem,Za,simprocAttr,Z7,f,hs,stG,gl,ht,txG,Y6,t1,d1,d2,kj,mj,hb,rd4,ol,bl1,read1,Zw]<;>rfl))
  obtain⟨hG,k2,rG⟩:=hG2 MB
  have MG:=MB.rd rG
  have nG:=rG.1
  iterate 7 (first|apply Goes.seq|apply Goes.skip|((first|apply Goes.Zr|apply Goes.ops2 fits Hh (Zy Zc k2)); · simp (maxSteps:=9^6) +decide (disch:=first|omega|(simp only[lens]<;>omega)|decide) only [go_sem,Za,simprocAttr,Z7,f,hs,stG,gl,ht,txG,Y6,t1,d1,d2,kj,mj,hb,rd4,ol,bl1,read1,Zw]<;>rfl))
  refine Goes.abs fun hC eC=>?_
  have nC:hC.next=hG.next+1:=by rw[eC]; simp only[H.Zg,H.Zd]
  have kC:∀ m,m<hG.next→hC.get m=hG.get m:=fun m hm=>by rw[eC]; (first|(simp (discharger:=omega) only [H.get_put,H.Zi,H.Zm,H.Zd,H.Zg,H.Zj,if_neg]; done)|(simp only[H.get_put,H.Zi,H.Zm,H.Zd,H.Zg,H.Zj]; (repeat' split)<;>first|rfl|(exfalso; omega)|omega))
  have iC:hC.get hG.next=some (.row 16 [o] false):=by rw[eC]; simp (maxSteps:=9^6) +decide (disch:=first|omega|(simp only[lens]<;>omega)|decide) only [go_sem,Za,simprocAttr,ol]<;>rfl
  clear eC
  have MC:=MG.keep (h2:=hC) (by omega) (fun m hm=>kC m (by have:=MB.nx.2; omega))
  obtain⟨hS,e1,rS,nS,MS⟩:=hGE MC
  have k3:=Wl Hh e1
  have c6:=(kC h.next (by omega)).trans ((rG.2.1 h.next (by omega) (by omega)).trans ((kB h.next (by omega) (by omega)).trans a6))
  iterate 7 (first|apply Goes.seq|apply Goes.skip|((first|apply Goes.Zr|apply Goes.ops2 fits Hh (Zy (Zh Zc (fun _ _ _ _=>Dx Hh)) k3)); · simp (maxSteps:=9^6) +decide (disch:=first|omega|(simp only[lens]<;>omega)|decide) only [go_sem,Za,simprocAttr,Z7,f,hs,stG,gl,ht,txG,Y6,t1,d1,d2,kj,mj,hb,rd4,ol,bl1,c6,nC,read1,Zw]<;>rfl))
  refine Goes.abs fun hD eD=>?_
  have nD:hD.next=hG.next+2:=by rw[eD]; simp only[H.Zg,H.Zd]; omega
  have kD':∀ m,m<hS.next→hD.get m=hS.get m:=fun m hm=>by rw[eD]; (first|(simp (discharger:=omega) only [H.get_put,H.Zi,H.Zm,H.Zd,H.Zg,H.Zj,if_neg]; done)|(simp only[H.get_put,H.Zi,H.Zm,H.Zd,H.Zg,H.Zj]; (repeat' split)<;>first|rfl|(exfalso; omega)|omega))
  have bD:hD.get hS.next=some (.row 256 [Yy g] false):=by rw[eD,hB]; simp (maxSteps:=9^6) +decide (disch:=first|omega|(simp only[lens]<;>omega)|decide) only [go_sem,Za,simprocAttr,bl1]<;>rfl
  clear eD
  have MD:=MS.keep (h2:=hD) (by omega) (fun m hm=>kD' m (by have:=MC.nx.2; omega))
  have iD:=(kD' hG.next (by omega)).trans ((rS.2.1 hG.next (by omega) (by omega)).trans iC)
  have dD:=(kD' pD (by omega)).trans ((rS.2.1 pD (by omega) (by omega)).trans ((kC pD (by omega)).trans ((rG.2.1 pD (by omega) (by omega)).trans cD)))
  have kx:∀ m,m<h.next→m≠n+6→hD.get m=h.get m:=fun m hm hne=>(kD' m (by omega)).trans ((rS.2.1 m (by omega) hne).trans ((kC m (by omega)).trans ((rG.2.1 m (by omega) hne).trans ((kB m (by omega) hne).trans (kA m hm)))))
  have k4:=Z0q Hh hD hS.next t g (by omega) gt bD
  have nH:hS.next=hG.next+1:=by omega
  rw[nH] at k4 bD ⊢
  obtain⟨N,hN⟩:∃ N,hG.next=N:=⟨_,rfl⟩
  rw[hN] at k4 bD iD nD ⊢
  have pN:pD<N:=by omega
  have hN1:h.next<N:=by omega
  have qN:q+9≤pD:=by omega
  have hC2:=fun {h2:Go.Ev.H} (M2:MhE n q a b c e cr md w kn lc L h2) (i2:h2.get N=some (.row 16 [o] false)) (p2:h2.get pD=some (.row 3 (D.map Oh) false)) (l2:N<h2.next) (lp2:pD<h2.next)=>fun (Z':List (List C)) (eZ:(D.map Oh).set k [.int .i64 (x0:Int),.int .i64 ((i0:Int)+1),.int .i64 (Zar kq w0)]=Z') (h3:Go.Ev.H) (k3:∀ m,m<h2.next→Off n q m→h3.get m=h2.get m)=>(show Ze K Tryz.prog 46 [.c (.ptr pD (k * 3)),.c (.ptr N 0)] h3 (.tup []) (h3.put pD (.row 3 Z' false)) from by
   have nq2:=M2.nx
   rw[←eZ]
   exact Z27 Hh ((k3 N (by omega) ⟨by omega,by omega,by omega,by omega,by omega⟩).trans i2) o0 ((k3 pD (by omega) ⟨by omega,by omega,by omega,by omega,by omega⟩).trans p2) Zk (by omega) (by omega) (by omega))
  have out:∀ m,m<h.next→Off n q m→m≠n+6:=fun m _ ho=>ho.1
  have fin2:∀ {h2:Go.Ev.H},h2=hD.put (N+1) (.row 256 [Yy (Zgt g t)] false)→MhE n q a b c e cr md w kn lc L h2∧h2.get N=some (.row 16 [o] false)∧h2.get pD=some (.row 3 (D.map Oh) false)∧h2.get (N+1)=some (.row 256 [Yy (Zgt g t)] false)∧h2.next=N+2∧∀ m,m<h.next→m≠n+6→h2.get m=h.get m:=fun {h2} e2=>by
   subst e2
   exact⟨MD.keep (by rw[H.Zg]; omega) (fun m hm=>Zp (by omega)),(Zp (by omega)).trans iD,(Zp (by omega)).trans dD,Z9 ..,by rw[H.Zg]; exact nD,fun m hm hne=>(Zp (by omega)).trans (kx m hm hne)⟩
  by_cases k0:kq=0
  ·subst k0
   apply Goes.seq
   refine Goes.ops2 fits Hh (Zy Zc k4) (by
    iterate 14 (refine Vk (by simp (maxSteps:=9^6) +decide (disch:=first|omega|(simp only[lens]<;>omega)|decide) only [go_sem,Za,simprocAttr,Z7,iD,o0,rd4,read1]<;>rfl) ?_)
    exact Vl) ?_
   iterate 4 (first|apply Goes.seq|apply Goes.ret|((first|apply Goes.Zr|apply Goes.ops2 fits Hh Zc); · simp (maxSteps:=9^6) +decide (disch:=first|omega|(simp only[lens]<;>omega)|decide) only [go_sem,Za,simprocAttr,iD,o0,rd4,read1]<;>rfl))
   refine⟨_,_,(by simp (maxSteps:=9^6) +decide (disch:=first|omega|(simp only[lens]<;>omega)|decide) only [go_sem,Za,simprocAttr]<;>rfl),2,kn,w,lc,rfl,MD.keep ?_ (fun m hm=>?_),by omega,?_,fun m hm ho=>?_,fun h1=>by omega⟩
   ·simp only[H.Zg,H.Zd]<;>omega
   ·(first|(simp (discharger:=omega) only [H.get_put,H.Zi,H.Zm,H.Zd,H.Zg,H.Zj,if_neg]; done)|(simp only[H.get_put,H.Zi,H.Zm,H.Zd,H.Zg,H.Zj]; (repeat' split)<;>first|rfl|(exfalso; omega)|omega))
   ·simp only[H.Zg,H.Zd]<;>omega
   ·refine Eq.trans ?_ (kx m hm ho.1); (first|(simp (discharger:=omega) only [H.get_put,H.Zi,H.Zm,H.Zd,H.Zg,H.Zj,if_neg]; done)|(simp only[H.get_put,H.Zi,H.Zm,H.Zd,H.Zg,H.Zj]; (repeat' split)<;>first|rfl|(exfalso; omega)|omega))
  have kqb:(kq == 0)=false:=Zhi k0
  cases hz2:z with
  | false =>
   rw[hz2] at hz
   apply Goes.seq
   refine Goes.ops2 fits Hh (Zy Zc k4) (by
    iterate 14 (refine Vk (by simp (maxSteps:=9^6) +decide (disch:=first|omega|(simp only[lens]<;>omega)|decide) only [go_sem,Za,simprocAttr,Z7,iD,o0,r11,pl,hz,kqb,rd4,read1]<;>rfl) ?_)
    exact Vl) ?_
   iterate 4 (first|apply Goes.seq|apply Goes.ret|((first|apply Goes.Zr|apply Goes.ops2 fits Hh Zc); · simp (maxSteps:=9^6) +decide (disch:=first|omega|(simp only[lens]<;>omega)|decide) only [go_sem,Za,simprocAttr,iD,o0,r11,pl,hz,kqb,rd4,read1]<;>rfl))
   refine⟨_,_,(by simp (maxSteps:=9^6) +decide (disch:=first|omega|(simp only[lens]<;>omega)|decide) only [go_sem,Za,simprocAttr]<;>rfl),2,kn,w,lc,rfl,MD.keep ?_ (fun m hm=>?_),by omega,?_,fun m hm ho=>?_,fun h1 h2=>by cases h2⟩
   ·simp only[H.Zg,H.Zd]<;>omega
   ·(first|(simp (discharger:=omega) only [H.get_put,H.Zi,H.Zm,H.Zd,H.Zg,H.Zj,if_neg]; done)|(simp only[H.get_put,H.Zi,H.Zm,H.Zd,H.Zg,H.Zj]; (repeat' split)<;>first|rfl|(exfalso; omega)|omega))
   ·simp only[H.Zg,H.Zd]<;>omega
   ·refine Eq.trans ?_ (kx m hm ho.1); (first|(simp (discharger:=omega) only [H.get_put,H.Zi,H.Zm,H.Zd,H.Zg,H.Zj,if_neg]; done)|(simp only[H.get_put,H.Zi,H.Zm,H.Zd,H.Zg,H.Zj]; (repeat' split)<;>first|rfl|(exfalso; omega)|omega))
  | true =>
   rw[hz2] at hz
   by_cases kw:kq=2∧w0=0
   ·obtain⟨k2,rfl⟩:=kw
    have gw:Zar kq ((0:Nat):Int) = -1:=by subst k2; rfl
    obtain⟨Z',eZ⟩:∃ Z',(D.map Oh).set k [.int .i64 (x0:Int),.int .i64 ((i0:Int)+1),.int .i64 (Zar kq ((0:Nat):Int))]=Z':=⟨_,rfl⟩
    have Zl:Z'.length=a:=by rw[←eZ,List.length_set,List.length_map,Dl]
    have Zb:Ze8 (b - 2 - c / 4) c Z'=true:=by
     rw[←eZ]
     refine Zsa ?_ Dm kD
     show (decide _&&decide _&&decide _&&decide _&&decide _)=true
     rw[gw,decide_eq_true (by omega),decide_eq_true (by omega),decide_eq_true (by omega),decide_eq_true (by omega),decide_eq_true (by omega)]
     rfl
    apply Goes.seq
    refine Goes.ops2 fits Hh (Zy Zc k4) (by
     iterate 14 (refine Vk (by simp (maxSteps:=9^6) +decide (disch:=first|omega|(simp only[lens]<;>omega)|decide) only [go_sem,Za,simprocAttr,Z7,iD,o0,o2,r11,pl,hz,kqb,ml,rd4,read1]<;>rfl) ?_)
     exact Vl) ?_
    iterate 3 (first|apply Goes.seq|apply Goes.skip|(apply Goes.Zr; · simp (maxSteps:=9^6) +decide (disch:=first|omega|(simp only[lens]<;>omega)|decide) only [go_sem,Za,simprocAttr,iD,o0,o2,r11,pl,hz,kqb,ml,rd4,read1]<;>rfl))
    refine Goes.abs fun hE eE=>?_
    obtain⟨ME,iE,dE,bE,nE,kE⟩:=fin2 eE
    clear eE
    obtain⟨hX,k5,MX,nX,kX⟩:=Zxh Hh f ME (by omega) jl (y:=Gw 0 0 gn 0 0 0 0 0 0 0 0 0 0 0 0 0) rfl ml mf (F:=46) (pq:=N) dE Zl Zb (by omega) qN (by rw[kj]; exact hC2 ME iE dE (by omega) (by omega) Z' eZ)
    simp only[Gw] at k5
    iterate 2 (first|apply Goes.ret|(apply Goes.ops2 fits Hh (Zy Zc k5); · simp (maxSteps:=9^6) +decide (disch:=first|omega|(simp only[lens]<;>omega)|decide) only [go_sem,Za,simprocAttr,Z7,iD,o0,o2,r11,pl,hz,kqb,ml,rd4,iE,bE,read1]<;>rfl))
    exact⟨_,_,(by simp (maxSteps:=9^6) +decide (disch:=first|omega|(simp only[lens]<;>omega)|decide) only [go_sem,Za,simprocAttr]<;>rfl),2,false,w+1,_,rfl,MX,by omega,by omega,fun m hm ho=>(kX m (by omega) ho (by omega)).trans (kE m hm ho.1),fun h1=>by omega⟩
   ·have gw:Zar kq (w0:Int)=((if kq=2 then w0 - 1 else w0:Nat):Int):=by
     unfold Zar
     split
     ·omega
     ·rfl
    obtain⟨w1,hw1⟩:∃ w1,(if kq=2 then w0 - 1 else w0)=w1:=⟨_,rfl⟩
    rw[hw1] at gw
    have w1l:w1≤w0:=by rw[←hw1]; split<;>omega
    obtain⟨D',hD'⟩:∃ D',D.set k (x0,i0+1,w1)=D':=⟨_,rfl⟩
    have Dl':D'.length=a:=by rw[←hD',List.length_set,Dl]
    have Dm':D'.all (Tv (b - 2 - c / 4) c)=true:=by
     rw[←hD']
     refine List.all_eq_true.2 fun y hy=>?_
     rcases List.mem_or_eq_of_mem_set hy with h1|rfl
     ·exact List.all_eq_true.1 Dm y h1
     ·unfold Tv
      rw[D5 dk.1,D5 (by simp only; omega),D5 (by simp only; omega)]
      rfl
    have eZ:(D.map Oh).set k [.int .i64 (x0:Int),.int .i64 ((i0:Int)+1),.int .i64 (Zar kq w0)]=D'.map Oh:=by
     rw[←hD',List.map_set,gw]
     congr 1
    obtain⟨sj,sl⟩:=see j jl
    have pc:=E8 c j
    obtain⟨gn',rfl⟩:=Int.eq_ofNat_of_zero_le gb.1
    have hi:=fun (h:Go.Ev.H) (m:Nat) (hp:h.get m=some (.row 256 [pgL (U (Jv b c e j))] false)) (lm:m<h.next)=>Zmb Hh sl pc (k:=0) (l:=0) (g:=gn') (s:=0) (p0:=0) (p1:=0) (p2:=0) (p3:=0) (p4:=0) (p5:=0) (p6:=0) (p7:=0) (p8:=0) (p9:=0) (p10:=0) (nx:=0) (by omega) (by omega) (by omega) (by omega) (fun v hv=>by simp only[List.mem_cons,List.not_mem_nil,or_false,or_self] at hv; omega) (by omega) rfl hp lm
    have msl:=Vm (k:=0) (l:=0) (g:=gn') (s:=0) (ps:=[0,0,0,0,0,0,0,0,0,0,0]) (nx:=0) (show Gy c j+64≤(U (Jv b c e j)).length by rw[sl]; omega)
    rw[sl] at msl
    obtain⟨ms,hms⟩:∃ ms,Gv (U (Jv b c e j)) (Gy c j) 0 0 gn' 0 [0,0,0,0,0,0,0,0,0,0,0] 0=ms:=⟨_,rfl⟩
    rw[hms] at msl
    simp only[hms] at hi
    apply Goes.seq
    refine Goes.ops2 fits Hh (Zy Zc k4) (by
     iterate 14 (refine Vk (by simp (maxSteps:=9^6) +decide (disch:=first|omega|(simp only[lens]<;>omega)|decide) only [go_sem,Za,simprocAttr,Z7,iD,o0,o2,r11,pl,hz,kqb,ml,rd4,read1]<;>rfl) ?_)
     exact Vl) ?_
    iterate 3 (first|apply Goes.seq|apply Goes.skip|(apply Goes.Zr; · simp (maxSteps:=9^6) +decide (disch:=first|omega|(simp only[lens]<;>omega)|decide) only [go_sem,Za,simprocAttr,iD,o0,o2,r11,pl,hz,kqb,ml,rd4,read1]<;>rfl))
    refine Goes.abs fun hE eE=>?_
    obtain⟨ME,iE,dE,bE,nE,kE⟩:=fin2 eE
    clear eE
    obtain⟨hX,k5,MX,nX,kX⟩:=Zn8 Hh f ME wc jl sj sl msl (y:=Gw 0 0 (gn':Int) 0 0 0 0 0 0 0 0 0 0 0 0 0) rfl ml mf (F:=46) (pq:=N) dE Dl Dl' Dm' (by omega) qN (by rw[kj]; exact hC2 ME iE dE (by omega) (by omega) _ eZ) hi
    simp only[Gw] at k5
    iterate 2 (first|apply Goes.ret|(apply Goes.ops2 fits Hh (Zy Zc k5); · simp (maxSteps:=9^6) +decide (disch:=first|omega|(simp only[lens]<;>omega)|decide) only [go_sem,Za,simprocAttr,Z7,iD,o0,o2,r11,pl,hz,kqb,ml,rd4,iE,bE,read1]<;>rfl))
    exact⟨_,_,(by simp (maxSteps:=9^6) +decide (disch:=first|omega|(simp only[lens]<;>omega)|decide) only [go_sem,Za,simprocAttr]<;>rfl),0,false,w+3,_,rfl,MX,by omega,by omega,fun m hm ho=>(kX m (by omega) ho (by omega)).trans (kE m hm ho.1),fun _ _=>rfl⟩
 exact⟨h',r,kn',w',lc',cc,M',wl,nn,kx,rr⟩
end
end Go.Proofs.YtngejdlimkgjfaaGreatDoor
