/- inodes.Take: the range over the groups. -/
import Derived.Test.YtlbbmhgdcdcdnaaGreatDoorTak
set_option linter.unusedSimpArgs false
set_option linter.unusedVariables false
set_option linter.unusedSectionVars false
set_option maxRecDepth 100000
set_option maxHeartbeats 4000000
namespace Go.Proofs.YtlbbmhgdcdcdnaaGreatDoor
open Go.Ev
noncomputable def q75 (p:List Nat):Code:=piece p (bodyOf Tryz.f75)
theorem q75_:q75 []=.seq (q75 [0]) (q75 [1]):=by kernel_rfl
theorem q75_0:q75 [0]=.region 0 (opsA (q75 [0])) false:=by kernel_rfl
theorem q75_1:q75 [1]=.seq (q75 [1,0]) (q75 [1,1]):=by kernel_rfl
theorem q75_10:q75 [1,0]=.seq (q75 [1,0,0]) (q75 [1,0,1]):=by kernel_rfl
theorem q75_100:q75 [1,0,0]=.region 1 (opsA (q75 [1,0,0])) false:=by kernel_rfl
theorem q75_101:q75 [1,0,1]=.cond (.tmp 16) (q75 [1,0,1,3]) (q75 [1,0,1,4]):=by kernel_rfl
theorem q75_1013:q75 [1,0,1,3]=.region 2 (opsA (q75 [1,0,1,3])) false:=by kernel_rfl
theorem q75_1014:q75 [1,0,1,4]=.skip:=by kernel_rfl
theorem q75_11:q75 [1,1]=.seq (q75 [1,1,0]) (q75 [1,1,1]):=by kernel_rfl
theorem q75_110:q75 [1,1,0]=.region 3 (opsA (q75 [1,1,0])) false:=by kernel_rfl
theorem q75_111:q75 [1,1,1]=.block 0 (q75 [1,1,1,2]):=by kernel_rfl
theorem q75_1112:q75 [1,1,1,2]=.loop (q75 [1,1,1,2,2]):=by kernel_rfl
theorem q75_11122:q75 [1,1,1,2,2]=.seq (q75 [1,1,1,2,2,0]) (q75 [1,1,1,2,2,1]):=by kernel_rfl
theorem q75_111220:q75 [1,1,1,2,2,0]=.region 4 (opsA (q75 [1,1,1,2,2,0])) false:=by kernel_rfl
theorem q75_111221:q75 [1,1,1,2,2,1]=.seq (q75 [1,1,1,2,2,1,0]) (q75 [1,1,1,2,2,1,1]):=by kernel_rfl
theorem q75_1112210:q75 [1,1,1,2,2,1,0]=.cond (.tmp 20) (q75 [1,1,1,2,2,1,0,3]) (q75 [1,1,1,2,2,1,0,4]):=by kernel_rfl
theorem q75_11122103:q75 [1,1,1,2,2,1,0,3]=.skip:=by kernel_rfl
theorem q75_1112211:q75 [1,1,1,2,2,1,1]=.seq (q75 [1,1,1,2,2,1,1,0]) (q75 [1,1,1,2,2,1,1,1]):=by kernel_rfl
theorem q75_11122110:q75 [1,1,1,2,2,1,1,0]=.block 1 (q75 [1,1,1,2,2,1,1,0,2]):=by kernel_rfl
theorem q75_111221102:q75 [1,1,1,2,2,1,1,0,2]=.seq (q75 [1,1,1,2,2,1,1,0,2,0]) (q75 [1,1,1,2,2,1,1,0,2,1]):=by kernel_rfl
theorem q75_1112211020:q75 [1,1,1,2,2,1,1,0,2,0]=.region 5 (opsA (q75 [1,1,1,2,2,1,1,0,2,0])) false:=by kernel_rfl
theorem q75_1112211021:q75 [1,1,1,2,2,1,1,0,2,1]=.seq (q75 [1,1,1,2,2,1,1,0,2,1,0]) (q75 [1,1,1,2,2,1,1,0,2,1,1]):=by kernel_rfl
theorem q75_11122110210:q75 [1,1,1,2,2,1,1,0,2,1,0]=.region 6 (opsA (q75 [1,1,1,2,2,1,1,0,2,1,0])) false:=by kernel_rfl
theorem q75_11122110211:q75 [1,1,1,2,2,1,1,0,2,1,1]=.cond (.tmp 30) (q75 [1,1,1,2,2,1,1,0,2,1,1,3]) (q75 [1,1,1,2,2,1,1,0,2,1,1,4]):=by kernel_rfl
theorem q75_111221102113:q75 [1,1,1,2,2,1,1,0,2,1,1,3]=.ret:=by kernel_rfl
theorem rs75:Tryz.f75.results.toList=[]:=rfl
attribute [go_sem] rs75
def lm1 (a b c:Nat):Ents:=updE 1 (descB a b c++[.bool false]) []
structure TCtx (n a b c e:Nat) (md:Int) (kn:Bool) (L:List (List C)) (l p3 p4 p6 p7 p9 p11 pD d:Nat) (ts:Tmps) (h:Go.Ev.H):Prop where
 M:Md n a b c e md kn [] [] (lm1 a b c) L h
 e3:evalT ts 3=.w (.c (.ptr p3 0))
 e4:evalT ts 4=.w (.c (.ptr p4 0))
 e6:evalT ts 6=.w (.c (.ptr p6 0))
 e7:evalT ts 7=.w (.c (.ptr p7 0))
 e9:evalT ts 9=.w (.c (.ptr p9 0))
 e11:evalT ts 11=.w (.c (.ptr p11 0))
 c3:h.get p3=some (.row 1 [[.ptr (n+13) 0]] false)
 c4:h.get p4=some (.row 1 [[.int .u8 2]] false)
 c6:h.get p6=some (.row 1 [[.int .i64 0]] false)
 c7:h.get p7=some (.row 1 [[.int .i64 0]] false)
 c9:h.get p9=some (.row 1 [[.slice pD 0 a 3]] false)
 c11:h.get p11=some (.row 4 [[.int .i64 (a:Int),.int .i64 (b:Int),.int .i64 (c:Int),.int .i64 (e:Int)]] false)
 cD:h.get pD=some (.row 3 ((firstD a b c).map rowD) false)
 b3:n+32≤p3∧p3<h.next
 b4:n+32≤p4∧p4<h.next
 b6:n+32≤p6∧p6<h.next
 b7:n+32≤p7∧p7<h.next
 b9:n+32≤p9∧p9<h.next
 b11:n+32≤p11∧p11<h.next
 bD:n+32≤pD∧pD<h.next
 bl:n+32≤l∧l<h.next
 n1:p3≠pD
 n2:p4≠pD
 n3:p6≠pD
 n4:p7≠pD
 n5:p6≠p7
 n6:l≠pD
 n7:l≠p6
 n8:l≠p7
 n9:l≠p3∧l≠p4∧l≠p9∧l≠p11
theorem first_at {a b c k:Nat} (ka:k<a):(firstD a b c)[k]? = some (b - 2 - c / 4,if k=0 then c - 1 else c,if k=0 then 1 else 0):=by
 cases k with
 | zero=>rfl
 | succ k =>
  rw[firstD,List.getElem?_cons_succ,List.getElem?_replicate,if_pos (by omega),if_neg (by omega),if_neg (by omega)]
theorem all_set {D:List Desc} {g:Desc→Bool} (h:D.all g=true) {d:Desc} (hd:g d=true) (k:Nat):(D.set k d).all g=true:=List.all_eq_true.2 fun y hy=>by
 rcases List.mem_or_eq_of_mem_set hy with h1|rfl
 ·exact List.all_eq_true.1 h y h1
 ·exact hd
section
variable (Hh:Hearts K Tryz.prog)
include Hh
variable {n a b c e:Nat} {md:Int} {kn:Bool} {L:List (List C)} {l p3 p4 p6 p7 p9 p11 pD d:Nat} {ts:Tmps} {h:Go.Ev.H}
theorem takeBody (f:fineB a b c e=true) (I:Image a b c e L) (T:TCtx n a b c e md kn L l p3 p4 p6 p7 p9 p11 pD d ts h) {k:Nat} (ka:k<a) {ts1:Tmps} (sk:∀ s,s≤11→evalT ts1 s=evalT ts s) (e12:evalT ts1 12=.w (.c (.int .i64 (k:Int)))) :
  Goes K Tryz.prog 96 (some l) (q10 [1,1,1,1,1,1,0,1,2,6]) [] ts1 h fun x _ _ h'=>x=.ret∧h.next≤h'.next∧(∀ m,m<h.next→n+32≤m→m≠pD→m≠p6→m≠p7→h'.get m=h.get m)∧h'.get p6=some (.row 1 [[.int .i64 ((if k=0 then 2 else k * c+1:Nat):Int)]] false)∧h'.get p7=some (.row 1 [[.int .i64 0]] false):=by
 obtain⟨g1,g2,g3,g4,g5,g6,g7,g8,g9,g10,g11⟩:=fineB_fine f
 obtain⟨M,e3,e4,e6,e7,e9,e11,c3,c4,c6,c7,c9,c11,cD,b3,b4,b6,b7,b9,b11,bD,bl,n1,n2,n3,n4,n5,n6,n7,n8,n9⟩:=T
 have fd:=first_at (b:=b) (c:=c) ka
 have bx:=I.bm k ka
 have tx:=I.tb k ka
 have fl:flatE (lm1 a b c)=true:=flat_upd (by rw[List.all_append,descB_flat]; rfl) rfl
 have la:∀ z:Nat,z≠1→lookE (z:Int) (lm1 a b c)=none:=fun z hz=>by unfold lm1; rw[look_upd,if_neg (by omega)]; rfl
 have dm:=firstD_may (a:=a) (b:=b) (c:=c) (by omega)
 have fz:=Nat.ble_eq_true_of_le (Nat.le_refl (b - 2 - c / 4))
 have zl:zB.length=256:=by kernel_rfl
 by_cases k0:k=0
 ·rw[if_pos k0,if_pos k0] at fd
  rw[if_pos k0] at bx tx
  have:=takeB Hh f M ka (t:=1) (z:=2+e+k * b+2) (zb:=2+e+k * b+1) (.inr rfl) rfl rfl fl (la _ (by omega)) (la _ (by omega)) tx bx rootB_len rootB_flat twoB_len twoB_flat fd (by omega) (by omega) (by omega) (firstD_len g1)
   (all_set dm (by simp only[mayD]; rw[fz,ble_t (by omega),ble_t (by omega)]; rfl) k)
   (fun h=>xInGet_ok Hh (by show xInGet [.g rootB,.c (.int .i64 64)] h=_; simp (maxSteps:=9^6) +decide (disch:=first|omega|(simp only[lens]<;>omega)|decide) only [go_sem,readRow,loadIn,simprocAttr]<;>rfl))
   (fun h m hm=>xInPut_ok Hh (by show xInPut [.c (.ptr m 0),.c (.int .i64 64),.g inoN] h=_; unfold inoN inoL; simp (maxSteps:=9^6) +decide (disch:=first|omega|(simp only[lens]<;>omega)|decide) only [go_sem,readRow,loadIn,simprocAttr,hm]<;>rfl))
   ((sk 3 (by decide)).trans e3) ((sk 4 (by decide)).trans e4) ((sk 6 (by decide)).trans e6) ((sk 7 (by decide)).trans e7) ((sk 9 (by decide)).trans e9) ((sk 11 (by decide)).trans e11) e12 c3 c4 c6 c7 c9 c11 cD b3 b4 b6 b7 b9 b11 bD bl n1 n2 n3 n4 n5 n6 n7 n8
  rw[if_pos k0]
  rw[k0,Nat.zero_mul,Nat.zero_add] at this
  exact this
 ·rw[if_neg k0,if_neg k0] at fd
  rw[if_neg k0] at bx tx
  have:=takeB Hh f M ka (t:=0) (z:=2+e+k * b+2) (zb:=2+e+k * b+1) (.inl rfl) rfl rfl fl (la _ (by omega)) (la _ (by omega)) tx bx zl zB_flat rootB_len rootB_flat fd (by omega) (by omega) (by omega) (firstD_len g1)
   (all_set dm (by simp only[mayD]; rw[fz,ble_t (by omega),ble_t (by omega)]; rfl) k)
   (fun h=>xInGet_ok Hh (by show xInGet [.g zB,.c (.int .i64 0)] h=_; simp (maxSteps:=9^6) +decide (disch:=first|omega|(simp only[lens]<;>omega)|decide) only [go_sem,readRow,loadIn,simprocAttr]<;>rfl))
   (fun h m hm=>xInPut_ok Hh (by show xInPut [.c (.ptr m 0),.c (.int .i64 0),.g inoN] h=_; unfold inoN inoL; simp (maxSteps:=9^6) +decide (disch:=first|omega|(simp only[lens]<;>omega)|decide) only [go_sem,readRow,loadIn,simprocAttr,hm]<;>rfl))
   ((sk 3 (by decide)).trans e3) ((sk 4 (by decide)).trans e4) ((sk 6 (by decide)).trans e6) ((sk 7 (by decide)).trans e7) ((sk 9 (by decide)).trans e9) ((sk 11 (by decide)).trans e11) e12 c3 c4 c6 c7 c9 c11 cD b3 b4 b6 b7 b9 b11 bD bl n1 n2 n3 n4 n5 n6 n7 n8
  rw[if_neg k0]
  rw[Nat.add_zero] at this
  exact this
end
end Go.Proofs.YtlbbmhgdcdcdnaaGreatDoor
set_option maxRecDepth 100000
set_option maxHeartbeats 4000000
namespace Go.Proofs.YtlbbmhgdcdcdnaaGreatDoor
open Go.Ev
def grpOf (a c:Nat) (near:Int):Nat:=if 1≤near∧near≤((a * c:Nat):Int) then (near.toNat - 1) / c else 0
def takeN (c k:Nat):Nat:=if k=0 then 2 else k * c+1
structure TAns (n pD l p6 p7 d v:Nat) (ts:Tmps) (h0 h:Go.Ev.H):Prop where
 next:h0.next≤h.next
 hl:h.get l=some (.loop ts 96 [42] (q10 [1,1,1,1,1,1,0,1,2,5]) (q10 [1,1,1,1,1,1,0,1,2,6]) .done (some .ret) d)
 r6:h.get p6=some (.row 1 [[.int .i64 (v:Int)]] false)
 r7:h.get p7=some (.row 1 [[.int .i64 0]] false)
 keep:∀ m,m<h0.next→n+32≤m→m≠l→m≠pD→m≠p6→m≠p7→h.get m=h0.get m
section
variable (Hh:Hearts K Tryz.prog)
include Hh
variable {n a b c e:Nat} {md:Int} {kn:Bool} {L:List (List C)} {l p3 p4 p6 p7 p9 p11 pD d:Nat} {ts:Tmps} {h:Go.Ev.H}
theorem takeA (l:Nat) (ts:Tmps) (k:Nat) (h:Go.Ev.H):Goes K Tryz.prog 96 (some l) (q10 [1,1,1,1,1,1,0,1,2,5]) [] (ts.set 42 (.w (.c (.int .i64 (k:Int))))) h fun x ds' ts' h'=>x=.normal∧ds'=[]∧(∀ s,s≤11→evalT ts' s=evalT ts s)∧evalT ts' 12=.w (.c (.int .i64 (k:Int)))∧h'=h:=by
 refine Goes.opsQ q10_1111110125 fits Hh E0_sound (by
  simp (maxSteps:=9^6) +decide (disch:=first|omega|(simp only[lens]<;>omega)|decide) only [go_sem,q10,Tryz.f10,readRow,loadIn,simprocAttr]
  rfl) ?_
 refine⟨rfl,rfl,fun s hs=>?_,?_,rfl⟩
 ·simp (decide:=true) only [evalT_low hs]
 ·simp (maxSteps:=9^6) +decide (disch:=first|omega|(simp only[lens]<;>omega)|decide) only [go_sem,readRow,loadIn,simprocAttr]
theorem takeRound (f:fineB a b c e=true) (I:Image a b c e L) (T:TCtx n a b c e md kn L l p3 p4 p6 p7 p9 p11 pD d ts h) (hl:h.get l=some (.loop ts 96 [42] (q10 [1,1,1,1,1,1,0,1,2,5]) (q10 [1,1,1,1,1,1,0,1,2,6]) .ready none d)) {k:Nat} (ka:k<a) :
  ∃ E h',Sound K Tryz.prog E∧evRound E l (some [.c (.int .i64 (k:Int))]) h (some (.loop ts 96 [42] (q10 [1,1,1,1,1,1,0,1,2,5]) (q10 [1,1,1,1,1,1,0,1,2,6]) .ready none d))=some (.val (.w (.c (.bool false))) h')∧TAns n pD l p6 p7 d (takeN c k) ts h h':=by
 obtain⟨xa,ds1,ts1,h1,kA,rfl,rfl,t1,t12,rfl⟩:=takeA Hh l ts k h
 have bl:=T.bl
 have T':TCtx n a b c e md kn L l p3 p4 p6 p7 p9 p11 pD d ts (h1.put l (.loop ts 96 [42] (q10 [1,1,1,1,1,1,0,1,2,5]) (q10 [1,1,1,1,1,1,0,1,2,6]) .busy none d)):=by
  obtain⟨M,e3,e4,e6,e7,e9,e11,c3,c4,c6,c7,c9,c11,cD,b3,b4,b6,b7,b9,b11,bD,bl,n1,n2,n3,n4,n5,n6,n7,n8,n9⟩:=T
  exact⟨M.keep (by rw[H.next_put]; omega) (fun m hm=>by rw[get_put_ne (by omega)]),e3,e4,e6,e7,e9,e11,by rw[get_put_ne (by omega)]; exact c3,by rw[get_put_ne (by omega)]; exact c4,by rw[get_put_ne (by omega)]; exact c6,by rw[get_put_ne (by omega)]; exact c7,by rw[get_put_ne (by omega)]; exact c9,by rw[get_put_ne (by omega)]; exact c11,by rw[get_put_ne (by omega)]; exact cD,b3,b4,b6,b7,b9,b11,bD,bl,n1,n2,n3,n4,n5,n6,n7,n8,n9⟩
 obtain⟨xb,ds2,ts2,h2,kB,rfl,nn,kk,r6,r7⟩:=takeBody Hh f I T' ka t1 t12
 have gl:=(kk l (by rw[H.next_put]; omega) (by omega) T.n6 T.n7 T.n8).trans (get_put_self ..)
 have S:=E1c_sound (E1c_sound E0_sound kB) kA
 obtain⟨E,h3,S,rnd,rfl⟩:∃ E h3,Sound K Tryz.prog E∧evRound E l (some [.c (.int .i64 (k:Int))]) h1 (h1.get l)=some (.val (.w (.c (.bool false))) h3)∧h3=h2.put l (.loop ts 96 [42] (q10 [1,1,1,1,1,1,0,1,2,5]) (q10 [1,1,1,1,1,1,0,1,2,6]) .done (some .ret) d):=by
  refine⟨_,_,S,round_some hl (by simp only[zipParams]; rfl) (E1c_code ..) hl (E1c_next (fun e=>?_) |>.trans (E1c_code ..)) gl,rfl⟩
  have e1:=(Task.code.inj e).1
  rw[q10_1111110126,q10_1111110125] at e1
  cases e1
 rw[hl] at rnd
 refine⟨_,_,S,rnd,?_,get_put_self ..,?_,?_,fun m m1 m2 m3 m4 m5 m6=>?_⟩
 ·rw[H.next_put] at nn ⊢
  exact nn
 ·rw[get_put_ne (Ne.symm T.n7)]; exact r6
 ·rw[get_put_ne (Ne.symm T.n8)]; exact r7
 ·rw[get_put_ne m3,kk m (by rw[H.next_put]; exact m1) m2 m4 m5 m6,get_put_ne m3]
theorem groups1Ok (f:fineB a b c e=true) (I:Image a b c e L) (T:TCtx n a b c e md kn L l p3 p4 p6 p7 p9 p11 pD d ts h) (hl:h.get l=some (.loop ts 96 [42] (q10 [1,1,1,1,1,1,0,1,2,5]) (q10 [1,1,1,1,1,1,0,1,2,6]) .ready none d)) {pg pn:Nat} {near:Int} (hg:h.get pg=some (.row 4 [[.int .i64 (a:Int),.int .i64 (b:Int),.int .i64 (c:Int),.int .i64 (e:Int)]] false)) (hn:h.get pn=some (.row 1 [[.int .i64 near]] false)) :
  ∃ v h',CallOk K Tryz.prog 75 [.c (.yield l),.c (.ptr pg 0),.c (.ptr pn 0)] h v h'∧TAns n pD l p6 p7 d (takeN c (grpOf a c near)) ts h h':=by
 obtain⟨g1,g2,g3,g4,g5,g6,g7,g8,g9,g10,g11⟩:=fineB_fine f
 by_cases hv:1≤near∧near≤((a * c:Nat):Int)
 ·obtain⟨v1,v2⟩:=hv
  obtain⟨j,hj⟩:∃ j,near.toNat - 1=j:=⟨_,rfl⟩
  obtain rfl:near=((j+1:Nat):Int):=by omega
  have d1:=decide_eq_true v1
  have d2:=decide_eq_true v2
  have ka:j / c<a:=Nat.div_lt_of_lt_mul (by rw[Nat.mul_comm]; omega)
  have gk:grpOf a c ((j+1:Nat):Int)=j / c:=by unfold grpOf; rw[if_pos ⟨v1,v2⟩,hj]
  obtain⟨E,h2,S,rnd,A⟩:=takeRound Hh f I T hl ka
  rw[gk]
  obtain⟨k,hk⟩:∃ k,j / c=k:=⟨_,rfl⟩
  rw[hk] at rnd ka A ⊢
  have km:k % a=k:=Nat.mod_eq_of_lt ka
  have rm:opRem .i64 (k:Int) (a:Int)=some (.int .i64 (k:Int)):=by rw[rem_nat (by omega),km]
  have e0:(k:Int)+0=(k:Int):=Int.add_zero _
  refine CallOk.goesE fits Hh (by kernel_rfl) (by kernel_rfl) (by kernel_rfl) (show Tryz.f75.body=some (q75 []) by kernel_rfl) rfl ?_
  show Goes K Tryz.prog 32 none _ _ _ _ _
  refine Goes.seqQ q75_ ?_
  refine Goes.opsQ q75_0 fits Hh (EX_sound E0_sound (fun _ _ _ _=>xgHome_ok Hh)) (by
   simp (maxSteps:=9^6) +decide (disch:=first|omega|(simp only[lens]<;>omega)|decide) only [go_sem,q75,Tryz.f75,loadIn,simprocAttr,f,hg,hn,hl,rd4,d1,d2,hj,hk,rm,e0,rnd,read1]
   rfl) ?_
  refine Goes.seqQ q75_1 ?_
  refine Goes.seqQ q75_10 ?_
  refine Goes.opsQ q75_100 fits Hh E0_sound (by
   simp (maxSteps:=9^6) +decide (disch:=first|omega|(simp only[lens]<;>omega)|decide) only [go_sem,q75,Tryz.f75,loadIn,simprocAttr,f,hg,hn,hl,rd4,d1,d2,hj,hk,rm,e0,rnd,read1]
   rfl) ?_
  refine Goes.condFQ q75_101 (by simp (maxSteps:=9^6) +decide (disch:=first|omega|(simp only[lens]<;>omega)|decide) only [go_sem,loadIn,simprocAttr,f,hg,hn,hl,rd4,d1,d2,hj,hk,rm,e0,rnd,read1]<;>rfl) (by first|rfl|assumption|exact decide_eq_false (by omega)|(simp; omega)) ?_
  refine Goes.skipQ q75_1014 ?_
  refine Goes.seqQ q75_11 ?_
  refine Goes.opsQ q75_110 fits Hh E0_sound (by
   simp (maxSteps:=9^6) +decide (disch:=first|omega|(simp only[lens]<;>omega)|decide) only [go_sem,q75,Tryz.f75,loadIn,simprocAttr,f,hg,hn,hl,rd4,d1,d2,hj,hk,rm,e0,rnd,read1]
   rfl) ?_
  refine Goes.blockQ q75_111 (Goes.block ?_)
  refine Goes.loopQ q75_1112 (Goes.loop ?_)
  refine Goes.seqQ q75_11122 ?_
  refine Goes.opsQ q75_111220 fits Hh E0_sound (by
   simp (maxSteps:=9^6) +decide (disch:=first|omega|(simp only[lens]<;>omega)|decide) only [go_sem,q75,Tryz.f75,loadIn,simprocAttr,f,hg,hn,hl,rd4,d1,d2,hj,hk,rm,e0,rnd,read1]
   rfl) ?_
  refine Goes.seqQ q75_111221 ?_
  refine Goes.condTQ q75_1112210 (by simp (maxSteps:=9^6) +decide (disch:=first|omega|(simp only[lens]<;>omega)|decide) only [go_sem,loadIn,simprocAttr,f,hg,hn,hl,rd4,d1,d2,hj,hk,rm,e0,rnd,read1]<;>rfl) (by first|rfl|assumption|exact decide_eq_true (by omega)|(simp; omega)) ?_
  refine Goes.skipQ q75_11122103 ?_
  refine Goes.seqQ q75_1112211 ?_
  refine Goes.blockQ q75_11122110 (Goes.block ?_)
  refine Goes.seqQ q75_111221102 ?_
  refine Goes.opsQ q75_1112211020 fits Hh E0_sound (by
   simp (maxSteps:=9^6) +decide (disch:=first|omega|(simp only[lens]<;>omega)|decide) only [go_sem,q75,Tryz.f75,loadIn,simprocAttr,f,hg,hn,hl,rd4,d1,d2,hj,hk,rm,e0,rnd,read1]
   rfl) ?_
  refine Goes.seqQ q75_1112211021 ?_
  refine Goes.opsQ q75_11122110210 fits Hh S (by
   simp (maxSteps:=9^6) +decide (disch:=first|omega|(simp only[lens]<;>omega)|decide) only [go_sem,q75,Tryz.f75,loadIn,simprocAttr,f,hg,hn,hl,rd4,d1,d2,hj,hk,rm,e0,rnd,read1]
   rfl) ?_
  refine Goes.condTQ q75_11122110211 (by simp (maxSteps:=9^6) +decide (disch:=first|omega|(simp only[lens]<;>omega)|decide) only [go_sem,loadIn,simprocAttr,f,hg,hn,hl,rd4,d1,d2,hj,hk,rm,e0,rnd,read1]<;>rfl) (by first|rfl|assumption|exact decide_eq_true (by omega)|(simp; omega)) ?_
  refine Goes.retQ q75_111221102113 ?_
  exact⟨_,_,(by simp (maxSteps:=9^6) +decide (disch:=first|omega|(simp only[lens]<;>omega)|decide) only [go_sem,readRow,loadIn,simprocAttr]<;>rfl),A⟩
 ·have gk:grpOf a c near=0:=by unfold grpOf; rw[if_neg hv]
  obtain⟨E,h2,S,rnd,A⟩:=takeRound Hh f I T hl (show 0<a by omega)
  rw[gk]
  have rnd0:evRound E l (some [.c (.int .i64 0)]) h (some (.loop ts 96 [42] (q10 [1,1,1,1,1,1,0,1,2,5]) (q10 [1,1,1,1,1,1,0,1,2,6]) .ready none d))=some (.val (.w (.c (.bool false))) h2):=rnd
  have dd:(decide (1≤near)&&decide (near≤((a * c:Nat):Int)))=false:=by
   rw[←Bool.decide_and]
   exact decide_eq_false hv
  have rm:opRem .i64 0 (a:Int)=some (.int .i64 0):=by
   have:=rem_nat (k:=.i64) (a:=0) (b:=a) (by omega)
   rwa [Nat.zero_mod] at this
  refine CallOk.goesE fits Hh (by kernel_rfl) (by kernel_rfl) (by kernel_rfl) (show Tryz.f75.body=some (q75 []) by kernel_rfl) rfl ?_
  show Goes K Tryz.prog 32 none _ _ _ _ _
  refine Goes.seqQ q75_ ?_
  refine Goes.opsQ q75_0 fits Hh (EX_sound E0_sound (fun _ _ _ _=>xgHome_ok Hh)) (by
   simp (maxSteps:=9^6) +decide (disch:=first|omega|(simp only[lens]<;>omega)|decide) only [go_sem,q75,Tryz.f75,loadIn,simprocAttr,f,hg,hn,hl,rd4,dd,rm,rnd0,read1]
   rfl) ?_
  refine Goes.seqQ q75_1 ?_
  refine Goes.seqQ q75_10 ?_
  refine Goes.opsQ q75_100 fits Hh E0_sound (by
   simp (maxSteps:=9^6) +decide (disch:=first|omega|(simp only[lens]<;>omega)|decide) only [go_sem,q75,Tryz.f75,loadIn,simprocAttr,f,hg,hn,hl,rd4,dd,rm,rnd0,read1]
   rfl) ?_
  refine Goes.condTQ q75_101 (by simp (maxSteps:=9^6) +decide (disch:=first|omega|(simp only[lens]<;>omega)|decide) only [go_sem,loadIn,simprocAttr,f,hg,hn,hl,rd4,dd,rm,rnd0,read1]<;>rfl) (by first|rfl|assumption|exact decide_eq_true (by omega)|(simp; omega)) ?_
  refine Goes.opsQ q75_1013 fits Hh E0_sound (by
   simp (maxSteps:=9^6) +decide (disch:=first|omega|(simp only[lens]<;>omega)|decide) only [go_sem,q75,Tryz.f75,loadIn,simprocAttr,f,hg,hn,hl,rd4,dd,rm,rnd0,read1]
   rfl) ?_
  refine Goes.seqQ q75_11 ?_
  refine Goes.opsQ q75_110 fits Hh E0_sound (by
   simp (maxSteps:=9^6) +decide (disch:=first|omega|(simp only[lens]<;>omega)|decide) only [go_sem,q75,Tryz.f75,loadIn,simprocAttr,f,hg,hn,hl,rd4,dd,rm,rnd0,read1]
   rfl) ?_
  refine Goes.blockQ q75_111 (Goes.block ?_)
  refine Goes.loopQ q75_1112 (Goes.loop ?_)
  refine Goes.seqQ q75_11122 ?_
  refine Goes.opsQ q75_111220 fits Hh E0_sound (by
   simp (maxSteps:=9^6) +decide (disch:=first|omega|(simp only[lens]<;>omega)|decide) only [go_sem,q75,Tryz.f75,loadIn,simprocAttr,f,hg,hn,hl,rd4,dd,rm,rnd0,read1]
   rfl) ?_
  refine Goes.seqQ q75_111221 ?_
  refine Goes.condTQ q75_1112210 (by simp (maxSteps:=9^6) +decide (disch:=first|omega|(simp only[lens]<;>omega)|decide) only [go_sem,loadIn,simprocAttr,f,hg,hn,hl,rd4,dd,rm,rnd0,read1]<;>rfl) (by first|rfl|assumption|exact decide_eq_true (by omega)|(simp; omega)) ?_
  refine Goes.skipQ q75_11122103 ?_
  refine Goes.seqQ q75_1112211 ?_
  refine Goes.blockQ q75_11122110 (Goes.block ?_)
  refine Goes.seqQ q75_111221102 ?_
  refine Goes.opsQ q75_1112211020 fits Hh E0_sound (by
   simp (maxSteps:=9^6) +decide (disch:=first|omega|(simp only[lens]<;>omega)|decide) only [go_sem,q75,Tryz.f75,loadIn,simprocAttr,f,hg,hn,hl,rd4,dd,rm,rnd0,read1]
   rfl) ?_
  refine Goes.seqQ q75_1112211021 ?_
  refine Goes.opsQ q75_11122110210 fits Hh S (by
   simp (maxSteps:=9^6) +decide (disch:=first|omega|(simp only[lens]<;>omega)|decide) only [go_sem,q75,Tryz.f75,loadIn,simprocAttr,f,hg,hn,hl,rd4,dd,rm,rnd0,read1]
   rfl) ?_
  refine Goes.condTQ q75_11122110211 (by simp (maxSteps:=9^6) +decide (disch:=first|omega|(simp only[lens]<;>omega)|decide) only [go_sem,loadIn,simprocAttr,f,hg,hn,hl,rd4,dd,rm,rnd0,read1]<;>rfl) (by first|rfl|assumption|exact decide_eq_true (by omega)|(simp; omega)) ?_
  refine Goes.retQ q75_111221102113 ?_
  exact⟨_,_,(by simp (maxSteps:=9^6) +decide (disch:=first|omega|(simp only[lens]<;>omega)|decide) only [go_sem,readRow,loadIn,simprocAttr]<;>rfl),A⟩
end
end Go.Proofs.YtlbbmhgdcdcdnaaGreatDoor
set_option maxRecDepth 100000
set_option maxHeartbeats 4000000
namespace Go.Proofs.YtlbbmhgdcdcdnaaGreatDoor
open Go.Ev
section
variable (Hh:Hearts K Tryz.prog)
include Hh
variable {n a b c e:Nat} {md:Int} {kn:Bool} {L:List (List C)} {h:Go.Ev.H}
theorem takeLoop (f:fineB a b c e=true) (I:Image a b c e L) {p3 p4 p6 p7 p9 p11 pD pg pn:Nat} {near:Int} {ts:Tmps} (T:∀ h2 l,h.next<l→l<h2.next→(∀ m,m<h.next→h2.get m=h.get m)→TCtx n a b c e md kn L l p3 p4 p6 p7 p9 p11 pD h.next ts h2) (nh:n+32≤h.next) (p6h:p6<h.next) (p7h:p7<h.next) (pDh:pD<h.next)
  (hg:h.get pg=some (.row 4 [[.int .i64 (a:Int),.int .i64 (b:Int),.int .i64 (c:Int),.int .i64 (e:Int)]] false)) (hn:h.get pn=some (.row 1 [[.int .i64 near]] false)) (lg:pg<h.next) (ln:pn<h.next) (e41:evalT ts 41=.w (.c (.fn 75 [] [some (pg,0),some (pn,0)]))) :
  Goes K Tryz.prog 96 none (q10 [1,1,1,1,1,1,0,1,2]) [] ts h fun x ds' ts' h'=>x=.ret∧ts'=ts∧ds'=[h.next]∧h'.get h.next=some .defers∧h'.get p6=some (.row 1 [[.int .i64 ((takeN c (grpOf a c near):Nat):Int)]] false)∧h'.get p7=some (.row 1 [[.int .i64 0]] false):=by
 have g0:∀ (o:O) m,m<h.next→((h.new .defers).new o).get m=h.get m:=fun o m hm=>by rw[get_new_ne (by rw[H.next_new]; omega),get_new_ne (by omega)]
 have gd:∀ o:O,((h.new .defers).new o).get h.next=some .defers:=fun o=>by rw[get_new_ne (by rw[H.next_new]; omega),get_new_self]
 have T1:=T ((h.new .defers).new (.loop ts 96 [42] (q10 [1,1,1,1,1,1,0,1,2,5]) (q10 [1,1,1,1,1,1,0,1,2,6]) .ready none h.next)) (h.next+1) (by omega) (by simp only[H.next_new]; omega) (fun m hm=>g0 _ m hm)
 rw[q10_111111012]
 refine Goes.rangeE fits Hh (f:=75) (first:=[]) (caps:=[some (pg,0),some (pn,0)]) (by simp only[evalC,evalO_tmp,e41,asC]) (exE (groups1Ok Hh f I T1 (by rw[get_new_eq (by simp only[H.next_new]; omega)]) ((g0 _ _ lg).trans hg) ((g0 _ _ ln).trans hn)) ?_)
 rintro v h3 A
 refine⟨_,_,_,_,_,_,_,_,A.hl,by simp,?_⟩
 show _∧_∧_
 refine⟨rfl,rfl,rfl,?_,?_,?_⟩
 ·rw[get_put_ne (by omega),A.keep _ (by simp only[H.next_new]; omega) nh (by omega) (by omega) (by omega) (by omega),gd]
 ·rw[get_put_ne (by omega),A.r6]
 ·rw[get_put_ne (by omega),A.r7]
theorem takeOk (f:fineB a b c e=true) (I:Image a b c e L) (M:Md n a b c e md kn [] [] [] L h) (near:Int):∃ h',CallOk K Tryz.prog 10 [.c (.ptr (n+13) 0),.c (.int .u8 2),.c (.int .i64 near)] h (.tup [.c (.int .i64 ((takeN c (grpOf a c near):Nat):Int)),.c (.int .i64 0)]) h':=by
 obtain⟨g1,g2,g3,g4,g5,g6,g7,g8,g9,g10,g11⟩:=fineB_fine f
 have nx:=M.nx
 have hs:=M.hs
 have gl:=M.hg
 have ht:=M.ht
 unfold gdL gdN at gl
 obtain⟨v,h',cc,rfl⟩:∃ v h',CallOk K Tryz.prog 10 [.c (.ptr (n+13) 0),.c (.int .u8 2),.c (.int .i64 near)] h v h'∧v=.tup [.c (.int .i64 ((takeN c (grpOf a c near):Nat):Int)),.c (.int .i64 0)]:=by
  refine CallOk.goesE fits Hh (by kernel_rfl) (by kernel_rfl) (by kernel_rfl) (show Tryz.f10.body=some (q10 []) by kernel_rfl) rfl ?_
  show Goes K Tryz.prog 96 none _ _ _ _ _
  refine Goes.seqQ q10_ ?_
  refine Goes.opsQ q10_0 fits Hh E0_sound (by
   simp (maxSteps:=9^6) +decide (disch:=first|omega|(simp only[lens]<;>omega)|decide) only [go_sem,q10,Tryz.f10,readRow,loadIn,simprocAttr,f,hs,stN,gl,ht,txN,read1,opBox]
   rfl) ?_
  refine Goes.seqQ q10_1 ?_
  refine Goes.seqQ q10_10 ?_
  refine Goes.opsQ q10_100 fits Hh (EX_sound E0_sound (fun _ _ _ _=>xIOpen_ok Hh)) (by
   simp (maxSteps:=9^6) +decide (disch:=first|omega|(simp only[lens]<;>omega)|decide) only [go_sem,q10,Tryz.f10,readRow,loadIn,simprocAttr,f,hs,stN,gl,ht,txN,read1,opBox]
   rfl) ?_
  refine Goes.seqQ q10_101 ?_
  refine Goes.opsQ q10_1010 fits Hh E0_sound (by
   simp (maxSteps:=9^6) +decide (disch:=first|omega|(simp only[lens]<;>omega)|decide) only [go_sem,q10,Tryz.f10,readRow,loadIn,simprocAttr,f,hs,stN,gl,ht,txN,read1,opBox]
   rfl) ?_
  refine Goes.condFQ q10_1011 (by simp (maxSteps:=9^6) +decide (disch:=first|omega|(simp only[lens]<;>omega)|decide) only [go_sem,readRow,loadIn,simprocAttr,f,hs,stN,gl,ht,txN,read1,opBox]<;>rfl) (by first|rfl|assumption|exact decide_eq_false (by omega)|(simp; omega)) ?_
  refine Goes.skipQ q10_10114 ?_
  refine Goes.seqQ q10_11 ?_
  refine Goes.seqQ q10_110 ?_
  refine Goes.opsQ q10_1100 fits Hh E0_sound (by
   simp (maxSteps:=9^6) +decide (disch:=first|omega|(simp only[lens]<;>omega)|decide) only [go_sem,q10,Tryz.f10,readRow,loadIn,simprocAttr,f,hs,stN,gl,ht,txN,read1,opBox]
   rfl) ?_
  refine Goes.condFQ q10_1101 (by simp (maxSteps:=9^6) +decide (disch:=first|omega|(simp only[lens]<;>omega)|decide) only [go_sem,readRow,loadIn,simprocAttr,f,hs,stN,gl,ht,txN,read1,opBox]<;>rfl) (by first|rfl|assumption|exact decide_eq_false (by omega)|(simp; omega)) ?_
  refine Goes.skipQ q10_11014 ?_
  refine Goes.seqQ q10_111 ?_
  refine Goes.abs fun hA eA=>?_
  have nA:hA.next=h.next+1+1+1+1:=by rw[eA]; simp only[H.next_put,H.next_new]
  have kA:∀ m,m<h.next→hA.get m=h.get m:=fun m hm=>by rw[eA]; (first|(simp (discharger:=omega) only [H.get_put,H.get_new,H.get_del,H.next_new,H.next_put,H.next_del,if_neg]; done)|(simp only[H.get_put,H.get_new,H.get_del,H.next_new,H.next_put,H.next_del]; (repeat' split)<;>first|rfl|(exfalso; omega)|omega))
  have a3:hA.get h.next=some (.row 1 [[.ptr (n+13) 0]] false):=by rw[eA]; simp (maxSteps:=9^6) +decide (disch:=first|omega|(simp only[lens]<;>omega)|decide) only [go_sem,readRow,loadIn,simprocAttr]<;>rfl
  have a4:hA.get (h.next+1)=some (.row 1 [[.int .u8 2]] false):=by rw[eA]; simp (maxSteps:=9^6) +decide (disch:=first|omega|(simp only[lens]<;>omega)|decide) only [go_sem,readRow,loadIn,simprocAttr]<;>rfl
  have a6:hA.get (h.next+1+1)=some (.row 1 [[.int .i64 0]] false):=by rw[eA]; simp (maxSteps:=9^6) +decide (disch:=first|omega|(simp only[lens]<;>omega)|decide) only [go_sem,readRow,loadIn,simprocAttr]<;>rfl
  have a7:hA.get (h.next+1+1+1)=some (.row 1 [[.int .i64 0]] false):=by rw[eA]; simp (maxSteps:=9^6) +decide (disch:=first|omega|(simp only[lens]<;>omega)|decide) only [go_sem,readRow,loadIn,simprocAttr]<;>rfl
  clear eA
  have MA:=M.keep (h2:=hA) (by omega) (fun m hm=>kA m (by omega))
  obtain⟨hB,pD,k6,MB,pD1,pD2,cD,kB⟩:=iDescs Hh f MA rfl rfl rfl I.de
  have hsB:=MB.hs
  have glB:=MB.hg
  unfold gdL gdN at glB
  have b3:=(kB h.next (by omega) (by omega)).trans a3
  have b4:=(kB (h.next+1) (by omega) (by omega)).trans a4
  have b6:=(kB (h.next+1+1) (by omega) (by omega)).trans a6
  have b7:=(kB (h.next+1+1+1) (by omega) (by omega)).trans a7
  refine Goes.opsQ q10_1110 fits Hh (E1_sound E0_sound k6) (by
   simp (maxSteps:=9^6) +decide (disch:=first|omega|(simp only[lens]<;>omega)|decide) only [go_sem,q10,Tryz.f10,readRow,loadIn,simprocAttr,E1_call,f,hs,stN,gl,ht,txN,a3,hsB,glB,b3,b4,read1,opBox]
   rfl) ?_
  refine Goes.seqQ q10_1111 ?_
  refine Goes.seqQ q10_11110 ?_
  refine Goes.opsQ q10_111100 fits Hh E0_sound (by
   simp (maxSteps:=9^6) +decide (disch:=first|omega|(simp only[lens]<;>omega)|decide) only [go_sem,q10,Tryz.f10,readRow,loadIn,simprocAttr,f,hs,stN,gl,ht,txN,a3,hsB,glB,b3,b4,read1,opBox]
   rfl) ?_
  refine Goes.condFQ q10_111101 (by simp (maxSteps:=9^6) +decide (disch:=first|omega|(simp only[lens]<;>omega)|decide) only [go_sem,readRow,loadIn,simprocAttr,f,hs,stN,gl,ht,txN,a3,hsB,glB,b3,b4,read1,opBox]<;>rfl) (by first|rfl|assumption|exact decide_eq_false (by omega)|(simp; omega)) ?_
  refine Goes.skipQ q10_1111014 ?_
  refine Goes.seqQ q10_11111 ?_
  refine Goes.opsQ q10_111110 fits Hh (EX_sound E0_sound (fun _ _ _ _=>xSGeo_ok Hh)) (by
   simp (maxSteps:=9^6) +decide (disch:=first|omega|(simp only[lens]<;>omega)|decide) only [go_sem,q10,Tryz.f10,readRow,loadIn,simprocAttr,f,hs,stN,gl,ht,txN,a3,hsB,glB,b3,b4,read1,opBox]
   rfl) ?_
  refine Goes.seqQ q10_111111 ?_
  refine Goes.seqQ q10_1111110 ?_
  refine Goes.opsQ q10_11111100 fits Hh (EX_sound E0_sound (fun _ _ _ _=>xGroups_ok Hh)) (by
   simp (maxSteps:=9^6) +decide (disch:=first|omega|(simp only[lens]<;>omega)|decide) only [go_sem,q10,Tryz.f10,readRow,loadIn,simprocAttr,f,hs,stN,gl,ht,txN,a3,hsB,glB,b3,b4,read1,opBox]
   rfl) ?_
  refine Goes.blockQ q10_11111101 (Goes.block ?_)
  refine Goes.abs fun hC eC=>?_
  have nC:hC.next=hB.next+1+1+1+1:=by rw[eC]; simp only[H.next_put,H.next_new]
  have kC:∀ m,m<hB.next→hC.get m=hB.get m:=fun m hm=>by rw[eC]; (first|(simp (discharger:=omega) only [H.get_put,H.get_new,H.get_del,H.next_new,H.next_put,H.next_del,if_neg]; done)|(simp only[H.get_put,H.get_new,H.get_del,H.next_new,H.next_put,H.next_del]; (repeat' split)<;>first|rfl|(exfalso; omega)|omega))
  have c9:hC.get hB.next=some (.row 1 [[.slice pD 0 a 3]] false):=by rw[eC]; simp (maxSteps:=9^6) +decide (disch:=first|omega|(simp only[lens]<;>omega)|decide) only [go_sem,readRow,loadIn,simprocAttr]<;>rfl
  have c11:hC.get (hB.next+1)=some (.row 4 [[.int .i64 (a:Int),.int .i64 (b:Int),.int .i64 (c:Int),.int .i64 (e:Int)]] false):=by rw[eC]; simp (maxSteps:=9^6) +decide (disch:=first|omega|(simp only[lens]<;>omega)|decide) only [go_sem,readRow,loadIn,simprocAttr]<;>rfl
  have cg:hC.get (hB.next+1+1)=some (.row 4 [[.int .i64 (a:Int),.int .i64 (b:Int),.int .i64 (c:Int),.int .i64 (e:Int)]] false):=by rw[eC]; simp (maxSteps:=9^6) +decide (disch:=first|omega|(simp only[lens]<;>omega)|decide) only [go_sem,readRow,loadIn,simprocAttr]<;>rfl
  have cn:hC.get (hB.next+1+1+1)=some (.row 1 [[.int .i64 near]] false):=by rw[eC]; simp (maxSteps:=9^6) +decide (disch:=first|omega|(simp only[lens]<;>omega)|decide) only [go_sem,readRow,loadIn,simprocAttr]<;>rfl
  clear eC
  have MC:=MB.keep (h2:=hC) (by omega) (fun m hm=>kC m (by have:=MB.nx; omega))
  have nB:=MB.nx
  refine (takeLoop Hh (h:=hC) (n:=n) (md:=md) (kn:=kn) f I (p3:=h.next) (p4:=h.next+1) (p6:=h.next+1+1) (p7:=h.next+1+1+1) (p9:=hB.next) (p11:=hB.next+1) (pD:=pD) (pg:=hB.next+1+1) (pn:=hB.next+1+1+1) (near:=near) ?_ (by omega) (by omega) (by omega) (by omega) cg cn (by omega) (by omega) ?_).mono ?_
  ·intro h2 l l1 l2 k2
   refine⟨MC.keep (by omega) (fun m hm=>k2 m (by omega)),?_,?_,?_,?_,?_,?_,(k2 _ (by omega)).trans ((kC _ (by omega)).trans b3),(k2 _ (by omega)).trans ((kC _ (by omega)).trans b4),(k2 _ (by omega)).trans ((kC _ (by omega)).trans b6),(k2 _ (by omega)).trans ((kC _ (by omega)).trans b7),(k2 _ (by omega)).trans c9,(k2 _ (by omega)).trans c11,(k2 _ (by omega)).trans ((kC _ (by omega)).trans cD),?_,?_,?_,?_,?_,?_,?_,?_,?_,?_,?_,?_,?_,?_,?_,?_,?_⟩
   all_goals (first|omega|(simp (decide:=true) only [evalT_set,reduceIte]))
  ·simp (decide:=true) only [evalT_set,reduceIte]
  rintro x ds' ts' h' ⟨rfl,rfl,rfl,gd,r6,r7⟩
  exact⟨_,_,(by simp (maxSteps:=9^6) +decide (disch:=first|omega|(simp only[lens]<;>omega)|decide) only [go_sem,readRow,loadIn,simprocAttr,gd,r6,r7,read1]<;>rfl),rfl⟩
 exact⟨h',cc⟩
end
end Go.Proofs.YtlbbmhgdcdcdnaaGreatDoor
