/- A cut of a row's file: what lies there; a block is given back. -/
import Derived.Test.YteiljiijagmonaaGreatDoorBgj
import Derived.Test.YteiljiijagmonaaGreatDoorMwl
set_option maxRecDepth 100000
set_option maxHeartbeats 4000000
set_option linter.unusedSimpArgs false
set_option linter.unusedVariables false
set_option linter.unusedSectionVars false
namespace Go.Proofs.YteiljiijagmonaaGreatDoor
open Go.Ev
theorem ty88:K.types.get 88=some ti88:=kR
theorem sz88:ti88.size=1:=by rfl
theorem ag88:ti88.agg=false:=by rfl
theorem de88:ti88.desc=(.pointer 90):=by rfl
theorem ze88:ti88.zero=(.c (.pnil)):=by rfl
theorem by88:ti88.bytes=8:=by rfl
theorem ty90:K.types.get 90=some ti90:=kR
theorem sz90:ti90.size=5:=by rfl
theorem ag90:ti90.agg=true:=by rfl
theorem fo90_0:Zm K 90 0=some (0,ti23):=kR
theorem fo90_1:Zm K 90 1=some (1,ti3):=kR
theorem fo90_2:Zm K 90 2=some (2,ti3):=kR
theorem fo90_3:Zm K 90 3=some (3,ti3):=kR
theorem fo90_4:Zm K 90 4=some (4,ti4):=kR
theorem bu90 (ps:List (Nat × W)):Yg K 90 (some ps)=gW (Z8 K 90 ps ti90.zero.cells):=kR
theorem ze90:ti90.zero=(.g ([.pnil,.int .i64 0,.int .i64 0,.int .i64 0,.bool false])):=by rfl
theorem by90:ti90.bytes=40:=by rfl
theorem ty156:K.types.get 156=some ti156:=kR
theorem sz156:ti156.size=1:=by rfl
theorem ag156:ti156.agg=false:=by rfl
attribute [go_sem] ty88 sz88 ag88 de88 ze88 by88 ty90 sz90 ag90 fo90_0 fo90_1 fo90_2 fo90_3 fo90_4 bu90 ze90 by90 ty156 sz156 ag156
theorem rs77:Tryz.f77.results.toList=[.tmp 8,.tmp 9]:=rfl
attribute [go_sem] rs77
theorem Z3n {b c m k:Nat} (hF:0<fF b c) (hk:m / fF b c=k):Zck (gG b c (m+1) k) (2+c / 4+m % fF b c)=gG b c m k\/fF b c+(2+c / 4)≠b:=by
 by_cases hb:fF b c+(2+c / 4)=b
 ·left
  obtain⟨h1,h2,h3⟩:=Zwc hk hF
  have h4:=Nat.mod_lt m hF
  have h5:m+1 - k * fF b c=m % fF b c+1:=oM
  funext j
  unfold Zck gG
  rw[h3,h5,Bool.eq_iff_iff]
  simp only[Bool.or_eq_true,aQ,Bool.not_eq_true',decide_eq_true_eq,decide_eq_false_iff_not]
  omega
 ·exact .inr hb
theorem Z2d {a b c m k:Nat} {iw:Nat->Nat × Nat} (hF:0<fF b c) (hk:m / fF b c=k) (ka:k<a):(DG a b c iw (m+1)).set k (fF b c - m % fF b c - 1+1,iw k)=DG a b c iw m:=by
 obtain⟨h1,h2,h3⟩:=Zwc hk hF
 have h4:=Nat.mod_lt m hF
 apply List.ext_getElem?
 intro i
 rcases Nat.lt_or_ge i a with q|q
 ·by_cases e:i=k
  ·subst e
   rw[List.getElem?_set_self (by rw[M6]; exact q),Zcb q]
   congr 2
   omega
  ·rw[List.getElem?_set_ne (Ne.symm e),Zcb q,Zcb q,(Zme hF hk e).2]
 ·rw[List.getElem?_eq_none (by rw[List.length_set,M6]; exact q),List.getElem?_eq_none (by rw[M6]; exact q)]
theorem AlG.back {a b c e m:Nat} {iw:Nat->Nat × Nat} {V:Nat->Lq} (f:Y1 a b c e=true) (io:Zzn c iw) (A:AlG a b c e iw V (m+1)) {k:Nat} (hk:m / fF b c=k) (ka:k<a) (ns:Lq):AlG a b c e iw (Df (Zjg b e V (DG a b c iw (m+1)) (gG b c (m+1)) k (2+c / 4+m % fF b c) (fF b c - m % fF b c - 1) (iw k).1 (iw k).2) (Wv b c e m) ns) m:=by
 obtain⟨g1,g2,g3,g4,g5,g6,g7,g8,g9,g10,g11⟩:=Ya f
 obtain⟨hF,hF2⟩:=Zg7 f
 obtain⟨gd,td⟩:=Zj7 f (D:=DG a b c iw m) M6 (Zgb io)
 unfold Zjg
 have es:(DG a b c iw (m+1)).set k (fF b c - m % fF b c - 1+1,(iw k).1,(iw k).2)=DG a b c iw m:=Z2d hF hk ka
 rw[es,(Z3n hF hk).resolve_right (fun w=>w oM)]
 have z1:(1:Nat)≠Wv b c e m:=by unfold Wv; omega
 refine⟨fun k' hk'=>?_,⟨by rw[Y9 z1,Ov]; exact gd,by rw[Y9 z1,Ov]; exact td,M6⟩,Zgb io⟩
 rw[Y9 (show 2+e+k' * b≠Wv b c e m from fun w=>Zcg (m:=m) f (k:=k') (r:=0) oM (by rw[Nat.add_zero]; exact w.symm)),Y9 oM]
 by_cases e:k'=k
 ·subst e
  rw[Ov]
 ·rw[Y9 (fun w=>by
   rcases Nat.lt_or_gt_of_ne e with q|q
   ·have:=Na (F:=b) q; omega
   ·have:=Na (F:=b) q; omega),<-(Zme hF hk e).1]
  exact A.bm k' hk'
def FM:Lq:=(List.range 103).map Yo
def RM:Lq:=[Yo 8,Yo 73,Yo 74]
theorem Zxy {k:Nat} (h:k<103):Yo k∈FM:=List.mem_map.2 ⟨k,List.mem_range.2 h,rfl⟩
theorem Z5i:∀ z∈FM,z<282:=fun z hz=>by
 obtain⟨k,hk,rfl⟩:=List.mem_map.1 hz
 have:=List.mem_range.1 hk
 rw[O4]
 omega
theorem Ww {j k:Nat} (h:Yo j=Yo k):j=k:=Zgo Bl h
theorem Zx0 {k:Nat} (hk:k<103) (h:Yo k∈chM++chM):Yo k∈RM:=by
 have h:Yo k∈chM:=by
  rcases List.mem_append.1 h with w|w<;>exact w
 unfold chM at h
 unfold RM
 simp only[List.mem_cons,List.not_mem_nil,or_false] at h ⊢
 rcases h with h|h|h|h
 ·rw[O4] at h; omega
 ·rw[O4] at h; omega
 ·rw[O4] at h; omega
 ·exact h
theorem Zoe {k z:Nat} (hk:k<103) (hz:z=1\/z=42\/z=102):Yo k≠z:=by
 rw[O4]
 omega
structure CS (n q:Nat) (md:Int) (sh pc pb pk pl fr mo k nn:Nat) (fu:Bool) (V:Nat->Lq) (h:Hq):Prop where
 M:HE n q 4 60 8 40 ⟨16,(mo:Int) - (nn:Int),true,chM,FM,RM,sh⟩ md chM [] V h
 al:AlG 4 60 8 40 (iw0 8) V k
 c0:h.get pc=some (.row 5 [[.ptr (n+13) 0,.int .i64 (fr:Int),.int .i64 (mo:Int),.int .i64 (nn:Int),.bool fu]] false)
 cb:h.get pb=some (.row 1 [[.ptr pc 0]] false)
 ck:h.get pk=some (.row 1 [[.fn 77 [] [some (pl,0),some (pb,0)]]] false)
 cl:h.get pl=some (.row 1 [[.fn 72 [] [some (pb,0),some (pk,0)]]] false)
 b0:q+9<=pc/\q+9<=pb/\q+9<=pk/\q+9<=pl
 b1:pc<h.next/\pb<h.next/\pk<h.next/\pl<h.next
 ne:pb≠pc/\pk≠pc/\pl≠pc
 le:nn<=mo/\mo<=9
 kl:k<=103
def Kc (n q pc:Nat) (h h':Hq):Prop:=h.next<=h'.next/\∀ m,m<h.next->Ez n q m->m≠pc->h'.get m=h.get m
theorem Kc.refl (n q pc:Nat) (h:Hq):Kc n q pc h h:=⟨Nat.le_refl _,fun _ _ _ _=>rfl⟩
theorem Kc.then {n q pc:Nat} {h h' h2:Hq} (r:Kc n q pc h h') (r2:Kc n q pc h' h2):Kc n q pc h h2:=⟨Nat.le_trans r.1 r2.1,fun m hm o ne=>(r2.2 m (Nat.lt_of_lt_of_le hm r.1) o ne).trans (r.2 m hm o ne)⟩
theorem Kf.kc {n q pc:Nat} {h h':Hq} (r:Kf n q h h'):Kc n q pc h h':=⟨r.1,fun m hm o _=>r.2 m hm o⟩
section
variable {n q sh pc pb pk pl fr mo k nn:Nat} {md:Int} {fu:Bool} {V:Nat->Lq} {h h2:Hq}
theorem CS.keep (C:CS n q md sh pc pb pk pl fr mo k nn fu V h) (nx:h.next<=h2.next) (kk:∀ m,m<q+9\/m=pc\/m=pb\/m=pk\/m=pl->h2.get m=h.get m):CS n q md sh pc pb pk pl fr mo k nn fu V h2:=by
 obtain⟨M,al,c0,cb,ck,cl,b0,b1,ne,le,kl⟩:=C
 exact⟨M.keep nx fun m hm=>kk m (.inl hm),al,(kk _ oM).trans c0,(kk _ oM).trans cb,(kk _ oM).trans ck,(kk _ oM).trans cl,b0,⟨oM,oM,oM,oM⟩,ne,le,kl⟩
variable (Hh:Hearts K Tryz.prog)
include Hh
theorem Zby (lv fi:Int) (pl pb:Nat) (h:Hq):Zi 77 [.c (.int .i64 0),.c (.int .i64 lv),.c (.int .i64 fi),.c (.ptr pl 0),.c (.ptr pb 0)] h (.tup [.c (.int .i64 0),.c (.int .i64 0)]) h:=by
 have e0:((0:Int) == 0)=true:=rfl
 refine fnG Hh Tryz.f77 ?_
 have Jf:=@e0
 iterate 9 (first|apply Zu|apply Yc|refine Goes.Zl Zn ?_|refine Zr Hh Za Zn ?_)
 exact Zn
theorem Z3a (C:CS n q md sh pc pb pk pl fr mo k mo fu V h) {z:Nat} (z0:0<z) (fi:Int):∃ h',Zi 77 [.c (.int .i64 (z:Int)),.c (.int .i64 0),.c (.int .i64 fi),.c (.ptr pl 0),.c (.ptr pb 0)] h (.tup [.c (.int .i64 (z:Int)),.c (.int .i64 0)]) h'/\CS n q md sh pc pb pk pl fr mo k mo true V h'/\Kc n q pc h h':=by
 obtain⟨M,al,c0,cb,ck,cl,b0,b1,ne,le,kl⟩:=C
 have e0:((z:Int) == 0)=false:=U7 oM
 have d0:decide ((0:Int)<0)=false:=rfl
 have d1:decide ((mo:Int)<=(mo:Int))=true:=decide_eq_true oM
 refine⟨h.put pc (.row 5 [[.ptr (n+13) 0,.int .i64 (fr:Int),.int .i64 (mo:Int),.int .i64 (mo:Int),.bool true]] false),?_,⟨M.keep (by rw[H.Zb]; omega) fun m hm=>Zd oM,al,Zx ..,(Zd ne.1).trans cb,(Zd ne.2.1).trans ck,(Zd ne.2.2).trans cl,b0,b1,ne,le,kl⟩,⟨by rw[H.Zb]; omega,fun m _ _ hne=>Zd hne⟩⟩
 refine fnG Hh Tryz.f77 ?_
 have Jf:=Ej @e0 @d0 @d1 @c0 @cb
 iterate 21 (first|apply Zu|apply Ye|apply Yc|refine Goes.Zl Gu ?_|refine Zr Hh Za Gu ?_|refine G6 Hh Za Zgi ?_)
 exact Gu
theorem Z6o (C:CS n q md sh pc pb pk pl fr mo (k+1) nn false V h) (nm:nn<mo) (fi:Int):∃ h' V',Zi 77 [.c (.int .i64 (Yo k:Nat)),.c (.int .i64 0),.c (.int .i64 fi),.c (.ptr pl 0),.c (.ptr pb 0)] h (.tup [.c (.int .i64 0),.c (.int .i64 0)]) h'/\CS n q md sh pc pb pk pl fr mo k (nn+1) false V' h'/\Kc n q pc h h'/\∀ j,j<103->j≠k->V' (Yo j)=V (Yo j):=by
 obtain⟨M,al,c0,cb,ck,cl,b0,b1,ne,le,kl⟩:=C
 have z46:=O4 k
 have e0:((Yo k:Nat):Int)≠0:=oM
 have e0:(((Yo k:Nat):Int) == 0)=false:=U7 e0
 have d0:decide ((0:Int)<0)=false:=rfl
 have d1:decide ((mo:Int)<=(nn:Int))=false:=decide_eq_false oM
 have F56:fF 60 8=56:=rfl
 have ka:k / fF 60 8<4:=by rw[F56]; omega
 have k56:=Nat.mod_lt k (show 0<56 by omega)
 have X:=Zcb (a:=4) (b:=60) (c:=8) (iw:=iw0 8) (m:=k+1) ka
 have mn:fF 60 8 - min (fF 60 8) (k+1 - k / fF 60 8 * fF 60 8)=fF 60 8 - k % fF 60 8 - 1:=by rw[F56]; omega
 rw[mn] at X
 have gi:gG 60 8 (k+1) (k / fF 60 8) (2+8 / 4+k % fF 60 8)=true:=by
  unfold gG
  rw[F56,Bool.or_eq_true]
  left
  exact decide_eq_true oM
 have bz:2+40+k / fF 60 8 * 60+(2+8 / 4+k % fF 60 8)=Yo k:=rfl
 have s3:2+40+k / fF 60 8 * 60∈chM:=by
  have:k / 56=0\/k / 56=1:=oM
  rw[F56]
  rcases this with w|w<;>(rw[w]; simp [chM])
 obtain⟨h1,ns,cG,nl,M1,k1⟩:=Ztz Hh Bl M al (k:=k / fF 60 8) (i:=2+8 / 4+k % fF 60 8) (Y:=(iw0 8 (k / fF 60 8)).1) (W':=(iw0 8 (k / fF 60 8)).2) ka oM (by rw[F56]; omega) gi X (by rw[F56]; omega) (by simp [chM]) s3 oM oM (by rw[bz]; exact Zxy oM) (by rw[bz]; exact Zx0 oM)
 rw[bz] at cG M1
 have al1:=al.back Bl (Zml (c:=8) oM) rfl ka ns
 have ag:∀ j,j<103->j≠k->Df (Zjg 60 40 V (DG 4 60 8 (iw0 8) (k+1)) (gG 60 8 (k+1)) (k / fF 60 8) (2+8 / 4+k % fF 60 8) (fF 60 8 - k % fF 60 8 - 1) (iw0 8 (k / fF 60 8)).1 (iw0 8 (k / fF 60 8)).2) (Yo k) ns (Yo j)=V (Yo j):=fun j hj hne=>by
  have h1:=O4 j
  have e2:2+40+k / fF 60 8 * 60=42\/2+40+k / fF 60 8 * 60=102:=by rw[F56]; omega
  unfold Zjg
  rw[Y9 (fun w=>hne (Ww w)),Y9 (Zoe hj (.inl rfl)),Y9 (fun w=>by rcases e2 with e2|e2<;>(rw[e2] at w; omega))]
 obtain⟨z,hz⟩:=xzE (Yo k)
 obtain⟨V',hV'⟩:=xzE (Df (Zjg 60 40 V (DG 4 60 8 (iw0 8) (k+1)) (gG 60 8 (k+1)) (k / fF 60 8) (2+8 / 4+k % fF 60 8) (fF 60 8 - k % fF 60 8 - 1) (iw0 8 (k / fF 60 8)).1 (iw0 8 (k / fF 60 8)).2) (Yo k) ns)
 rw[hV'] at M1 ag
 have al1:AlG 4 60 8 40 (iw0 8) V' k:=by rw[<-hV']; exact al1
 rw[hz] at cG e0 ⊢
 have o:∀ m,m<h.next->q+9<=m->h1.get m=h.get m:=fun m hm hq=>k1.2 m hm ⟨by have:=M.nx; omega,oM⟩
 have c1:=(o pc b1.1 b0.1).trans c0
 have r1:(mo:Int) - (nn:Int) - 1=(mo:Int) - ((nn+1:Nat):Int):=oM
 rw[r1] at M1
 have en:(nn:Int)+1=((nn+1:Nat):Int):=rfl
 have cb1:=(o pb b1.2.1 b0.2.1).trans cb
 refine⟨h1.put pc (.row 5 [[.ptr (n+13) 0,.int .i64 (fr:Int),.int .i64 (mo:Int),.int .i64 ((nn+1:Nat):Int),.bool false]] false),V',?_,⟨M1.keep (by rw[H.Zb]; omega) fun m hm=>Zd oM,al1,Zx ..,(Zd ne.1).trans cb1,(Zd ne.2.1).trans ((o pk b1.2.2.1 b0.2.2.1).trans ck),(Zd ne.2.2).trans ((o pl b1.2.2.2 b0.2.2.2).trans cl),b0,⟨by have:=k1.1; rw[H.Zb]; omega,by have:=k1.1; rw[H.Zb]; omega,by have:=k1.1; rw[H.Zb]; omega,by have:=k1.1; rw[H.Zb]; omega⟩,ne,⟨oM,le.2⟩,oM⟩,⟨by rw[H.Zb]; exact k1.1,fun m hm ho hne=>(Zd hne).trans (k1.2 m hm ho)⟩,ag⟩
 refine fnG Hh Tryz.f77 ?_
 have Jf:=Lg @e0 @d0 @d1 @c0 @cb @c1 @cb1 @en
 iterate 19 (first|apply Zu|apply Ye|refine Goes.Zl Gu ?_|refine Zr Hh Za Gu ?_|refine G6 Hh Za Zgi ?_)
 iterate 10 (first|apply Zu|apply Ye|apply Yc|refine Goes.Zl Gu ?_|refine Zr Hh (Zp Za cG) Gu ?_)
 exact Gu
end
theorem ty91:K.types.get 91=some ti91:=kR
theorem sz91:ti91.size=1:=by rfl
theorem ag91:ti91.agg=false:=by rfl
attribute [go_sem] ty91 sz91 ag91
noncomputable def q72 (p:Lq):Code:=piece p (Ug Tryz.f72)
theorem Zpw:q72 [1,1,1,1,0,1,2]=.rangeFunc (.tmp 35) #[36,37] (q72 [1,1,1,1,0,1,2,5]) (q72 [1,1,1,1,0,1,2,6]):=kR
theorem Zm0:q72 [1,1,1,1,0,1,2,5]=.seq (q72 [1,1,1,1,0,1,2,5,0]) (q72 [1,1,1,1,0,1,2,5,1]):=kR
theorem Zm1:q72 [1,1,1,1,0,1,2,6]=.block 1 (q72 [1,1,1,1,0,1,2,6,2]):=kR
theorem Zwv:q72 [1,1,1,1,1]=.seq (q72 [1,1,1,1,1,0]) (q72 [1,1,1,1,1,1]):=kR
theorem Zr6:q72 [1,1,1,1,1,1]=.seq (q72 [1,1,1,1,1,1,0]) (q72 [1,1,1,1,1,1,1]):=kR
theorem Zpx:q72 [1,1,1,1,1,1,0]=.seq (q72 [1,1,1,1,1,1,0,0]) (q72 [1,1,1,1,1,1,0,1]):=kR
theorem Zm2:q72 [1,1,1,1,1,1,0,1]=.cond (.tmp 89) (q72 [1,1,1,1,1,1,0,1,3]) (q72 [1,1,1,1,1,1,0,1,4]):=kR
theorem Zjl:q72 [1,1,1,1,1,1,0,1,3]=.seq (q72 [1,1,1,1,1,1,0,1,3,0]) (q72 [1,1,1,1,1,1,0,1,3,1]):=kR
theorem Zh9:q72 [1,1,1,1,1,1,0,1,3,1]=.ret:=kR
theorem Zjm:q72 [1,1,1,1,1,1,0,1,4]=.skip:=kR
theorem Zpy:q72 [1,1,1,1,1,1,1]=.seq (q72 [1,1,1,1,1,1,1,0]) (q72 [1,1,1,1,1,1,1,1]):=kR
theorem Zm3:q72 [1,1,1,1,1,1,1,1]=.ret:=kR
theorem rs72:Tryz.f72.results.toList=[.cell 8 4,.cell 9 31]:=rfl
attribute [go_sem] rs72
def Acc (mo T k nn k2 nn2:Nat) (fu:Bool):Prop:=k2+nn2=k+nn/\(fu=false->k2=min k T)/\(fu=true->nn2=mo/\T<k2)
theorem Acc.then {mo T T2 k nn k1 nn1 k2 nn2:Nat} {fu:Bool} (a:Acc mo T k nn k1 nn1 false) (b:Acc mo T2 k1 nn1 k2 nn2 fu) (le:T2<=T):Acc mo T2 k nn k2 nn2 fu:=by
 obtain⟨a1,a2,_⟩:=a
 obtain⟨b1,b2,b3⟩:=b
 have a2:=a2 rfl
 exact⟨oM,fun w=>by have:=b2 w; omega,b3⟩
theorem Acc.low {mo T T2 k nn k2 nn2:Nat} (a:Acc mo T k nn k2 nn2 true) (le:T2<=T):Acc mo T2 k nn k2 nn2 true:=⟨a.1,(fun w=>by cases w),fun w=>by have:=a.2.2 w; omega⟩
structure BS (n q:Nat) (md:Int) (sh pc pb pk pl fr mo:Nat) (ptr:Nat->Nat->Nat) (Q:Nat->(Nat->Lq)->Prop) (z k0:Nat) (W0:Lq) (lv p6 pD p11 k nn:Nat) (fu:Bool) (V:Nat->Lq) (h:Hq):Prop where
 C:CS n q md sh pc pb pk pl fr mo k nn fu V h
 c6:h.get p6=some (.row 1 [[.int .i64 (lv:Int)]] false)
 D:∃ D,D.length=256/\h.get pD=some (.row 256 [pgL D] false)/\∀ w,w<64->Yq D (4 * w)=ptr k w
 ch:∃ b,h.get p11=some (.row 1 [[.bool b]] false)/\(b=false->∀ w,w<64->ptr k w=ptr k0 w)
 qq:Q k V
 vz:V z=W0
 b0:q+9<=p6/\q+9<=pD/\q+9<=p11
 b1:p6<h.next/\pD<h.next/\p11<h.next
 n1:p6≠pc/\pD≠pc/\p11≠pc/\pD≠p6/\p11≠p6/\pD≠p11
 n2:pD≠pb/\pD≠pk/\pD≠pl/\p11≠pb/\p11≠pk/\p11≠pl
theorem BS.keep {n q sh pc pb pk pl fr mo z k0 lv p6 pD p11 k nn:Nat} {md:Int} {ptr:Nat->Nat->Nat} {Q:Nat->(Nat->Lq)->Prop} {W0:Lq} {fu:Bool} {V:Nat->Lq} {h h2:Hq} (B:BS n q md sh pc pb pk pl fr mo ptr Q z k0 W0 lv p6 pD p11 k nn fu V h) (nx:h.next<=h2.next) (kk:∀ m,m<q+9\/m=pc\/m=pb\/m=pk\/m=pl\/m=p6\/m=pD\/m=p11->h2.get m=h.get m):BS n q md sh pc pb pk pl fr mo ptr Q z k0 W0 lv p6 pD p11 k nn fu V h2:=by
 obtain⟨C,c6,⟨D,Dl,hD,Dp⟩,⟨b,hb,bp⟩,qq,vz,b0,b1,n1,n2⟩:=B
 exact⟨C.keep nx fun m hm=>kk m oM,(kk _ oM).trans c6,⟨D,Dl,(kk _ oM).trans hD,Dp⟩,⟨b,(kk _ oM).trans hb,bp⟩,qq,vz,b0,⟨oM,oM,oM⟩,n1,n2⟩
def Zgc (n q:Nat) (md:Int) (sh pc pb pk pl fr mo:Nat) (ptr:Nat->Nat->Nat) (Q:Nat->(Nat->Lq)->Prop) (z lv st w Kw Kw1:Nat):Prop:=∀ (k nn:Nat) (V:Nat->Lq) (h:Hq),CS n q md sh pc pb pk pl fr mo k nn false V h->Q k V->k<=Kw1->∃ k2 nn2 fu2 V2 h2,Zi 77 [.c (.int .i64 (ptr k w:Nat)),.c (.int .i64 ((lv:Int) - 1)),.c (.int .i64 (st:Int)),.c (.ptr pl 0),.c (.ptr pb 0)] h (.tup [.c (.int .i64 (ptr k2 w:Nat)),.c (.int .i64 0)]) h2/\CS n q md sh pc pb pk pl fr mo k2 nn2 fu2 V2 h2/\Q k2 V2/\Kc n q pc h h2/\V2 z=V z/\(∀ w',w'<64->w'≠w->ptr k2 w'=ptr k w')/\Acc mo Kw k nn k2 nn2 fu2
section
variable (Hh:Hearts K Tryz.prog)
include Hh
variable {n q sh pc pb pk pl fr mo z k0 lv st w Kw Kw1 p6 pD p11 k nn:Nat} {md:Int} {ptr:Nat->Nat->Nat} {Q:Nat->(Nat->Lq)->Prop} {W0:Lq} {V:Nat->Lq} {h:Hq} {l:Nat} {ts:Zw}
theorem ckA (l:Nat) (ts:Zw) (w st:Nat) (h:Hq):Z7 99 (some l) (q72 [1,1,1,1,0,1,2,5]) [] ((ts.set 36 (.w (.c (.int .i64 (w:Int))))).set 37 (.w (.c (.int .i64 (st:Int))))) h fun x ds' ts' h'=>x=.normal/\ds'=[]/\(∀ s,s<=11->Ze ts' s=Ze ts s)/\Ze ts' 12=.w (.c (.int .i64 (w:Int)))/\Ze ts' 13=.w (.c (.int .i64 (st:Int)))/\h'=h:=by
 iterate 3 (first|apply Zu|refine Zr Hh Za Zf ?_)
 refine⟨rfl,rfl,fun s hs=>?_,?_,?_,rfl⟩
 ·simp (decide:=true) only [Yh hs]
 ·exact Zf
 ·exact Zf
theorem Z6g (w6:w<64) (lv4:lv<4) (kid:Zgc n q md sh pc pb pk pl fr mo ptr Q z lv st w Kw Kw1) (p32:∀ k w,ptr k w<4294967296) (B:BS n q md sh pc pb pk pl fr mo ptr Q z k0 W0 lv p6 pD p11 k nn false V h) (kK:k<=Kw1) (t3:Ze ts 3=.w (.c (.ptr pb 0))) (t4:Ze ts 4=.w (.c (.ptr pk 0))) (t6:Ze ts 6=.w (.c (.ptr p6 0))) (t10:Ze ts 10=.w (.c (.ptr pD 0))) (t11:Ze ts 11=.w (.c (.ptr p11 0))) (t12:Ze ts 12=.w (.c (.int .i64 (w:Int)))) (t13:Ze ts 13=.w (.c (.int .i64 (st:Int)))) :
  ∃ k2 nn2 fu2 V2,Acc mo Kw k nn k2 nn2 fu2/\Z7 99 (some l) (q72 [1,1,1,1,0,1,2,6]) [] ts h fun x _ _ h'=>x=(bif fu2 then .exit 0 else .normal)/\BS n q md sh pc pb pk pl fr mo ptr Q z k0 W0 lv p6 pD p11 k2 nn2 fu2 V2 h'/\h.next<=h'.next/\∀ m,m<h.next->Ez n q m->m≠pc->m≠pD->m≠p11->h'.get m=h.get m:=by
 obtain⟨C,c6,⟨D,Dl,hD,Dp⟩,⟨b,hb,bp⟩,qq,vz,b0,b1,n1,n2⟩:=B
 obtain⟨k2,nn2,fu2,V2,h2,ck,C2,Q2,kc,vz2,oth,acc⟩:=kid k nn V h C qq kK
 have cP:=Zzu Hh Dl hD w6
 rw[Dp w w6] at cP
 have hk:=C.ck
 have nx:=C.M.nx
 have o:∀ m,m<h.next->q+9<=m->m≠pc->h2.get m=h.get m:=fun m hm hq hne=>kc.2 m hm ⟨oM,oM⟩ hne
 have d6:=(o p6 b1.1 b0.1 n1.1).trans c6
 have dD:=(o pD b1.2.1 b0.2.1 n1.2.1).trans hD
 have d11:=(o p11 b1.2.2 b0.2.2 n1.2.2.1).trans hb
 have e0:((0:Int) != 0)=false:=rfl
 have dc:=C2.c0
 have db:=C2.cb
 have lt:=p32 k2 w
 have le2:=kc.1
 obtain⟨y,hy⟩:=xzE (ptr k2 w)
 obtain⟨y0,hy0⟩:=xzE (ptr k w)
 rw[hy0] at cP
 rw[hy,hy0] at ck
 refine⟨k2,nn2,fu2,V2,acc,?_⟩
 by_cases same:y=y0
 ·have BB:BS n q md sh pc pb pk pl fr mo ptr Q z k0 W0 lv p6 pD p11 k2 nn2 fu2 V2 h2:=by
   have eq:∀ w',w'<64->ptr k2 w'=ptr k w':=fun w' hw'=>by
    by_cases e:w'=w
    ·rw[e,hy,hy0,same]
    ·exact oth w' hw' e
   exact⟨C2,d6,⟨D,Dl,dD,fun w' hw'=>(Dp w' hw').trans (eq w' hw').symm⟩,⟨b,d11,fun e w' hw'=>(eq w' hw').trans (bp e w' hw')⟩,Q2,vz2.trans vz,b0,⟨oM,oM,oM⟩,n1,n2⟩
  have eN:((y:Int) != (y0:Int))=false:=Zzi oM
  cases fu2 with
  | false =>
   iterate 2 (first|apply Zu|apply Jc)
   have Jf:=Nt @t3 @t4 @t6 @t10 @t11 (Yw @t12 @t13 @hk @c6 @d6 @e0 @eN @dc @db)
   iterate 2 (first|apply Zu|refine Zr Hh (Zp Za cP) Ew ?_)
   iterate 15 (first|apply Zu|apply Ye|refine Goes.Zl Ew ?_|refine Zr Hh (Zp Za ck) Ew ?_)
   exact⟨rfl,BB,le2,fun m hm ho h1 _ _=>kc.2 m hm ho h1⟩
  | true =>
   iterate 2 (first|apply Zu|apply Zmg)
   have Jf:=Nt @t3 @t4 @t6 @t10 @t11 (Yw @t12 @t13 @hk @c6 @d6 @e0 @eN @dc @db)
   iterate 2 (first|apply Zu|refine Zr Hh (Zp Za cP) Ew ?_)
   iterate 15 (first|apply Zu|apply Ye|apply Gr|refine Goes.Zl Ew ?_|refine Zr Hh (Zp Za ck) Ew ?_)
   exact (if_neg (show ¬(0=1) by decide)).mpr ⟨rfl,BB,le2,fun m hm ho h1 _ _=>kc.2 m hm ho h1⟩
 ·have Xl:(Jd D (4 * w) y).length=256:=by rw[Qx]; exact Dl
  have xb:=Wy D
  have Yl:(pgL D).length=256:=by rw[Oz,Dl]
  have u4:pgL (Jd (unN (pgL D)) (4 * w) y)=pgL (Jd D (4 * w) y):=by rw[Gh,Vd]
  have r5:read1 256 [pgL D] 255=some (.int .u8 ((atN D 255:Nat):Int)):=Zr7 ⟨oM,oM⟩
  have rc:reaches 0 256 (some (.row 256 [pgL D] false))=true:=by
   show (match read1 256 [pgL D] 255 with|some _=>Nat.ble 1 256|none=>false)=true
   rw[r5]
   rfl
  have e1:(4:Int) * (w:Int)=((4 * w:Nat):Int):=rfl
  have Dp':∀ w',w'<64->Yq (Jd D (4 * w) y) (4 * w')=ptr k2 w':=fun w' hw'=>by
   by_cases e:w'=w
   ·rw[e,hy]
    exact Ny oM oM
   ·rw[Zal oM,Dp w' hw',oth w' hw' e]
  obtain⟨X,hX⟩:=xzE (Jd D (4 * w) y)
  obtain⟨u,hu⟩:=xzE (4 * w)
  have ul:u+4<=256:=oM
  rw[hX] at Xl u4 Dp'
  rw[hu] at u4 e1
  obtain⟨Y,hY⟩:=xzE (pgL D)
  rw[hY] at xb u4 rc dD Yl
  obtain⟨Z,hZ⟩:=xzE (pgL X)
  rw[hZ] at u4
  have eN:((y:Int) != (y0:Int))=true:=Zhp oM
  have BB:BS n q md sh pc pb pk pl fr mo ptr Q z k0 W0 lv p6 pD p11 k2 nn2 fu2 V2 ((h2.put pD (.row 256 [Z] false)).put p11 (.row 1 [[.bool true]] false)):=by
   have kk:∀ m,m≠pD->m≠p11->((h2.put pD (.row 256 [Z] false)).put p11 (.row 1 [[.bool true]] false)).get m=h2.get m:=fun m h1 h2=>(Zd h2).trans (Zd h1)
   refine⟨C2.keep (by simp only[H.Zb]; omega) fun m hm=>kk m ?_ ?_,(kk p6 oM oM).trans d6,⟨X,Xl,?_,Dp'⟩,⟨true,Zx ..,fun e=>by cases e⟩,Q2,vz2.trans vz,b0,⟨by simp only[H.Zb]; omega,by simp only[H.Zb]; omega,by simp only[H.Zb]; omega⟩,n1,n2⟩
   ·rcases hm with e|e|e|e|e
    ·exact fun w=>by rw[w] at e; exact absurd e (by have:=b0.2.1; omega)
    ·rw[e]; exact Ne.symm n1.2.1
    ·rw[e]; exact Ne.symm n2.1
    ·rw[e]; exact Ne.symm n2.2.1
    ·rw[e]; exact Ne.symm n2.2.2.1
   ·rcases hm with e|e|e|e|e
    ·exact fun w=>by rw[w] at e; exact absurd e (by have:=b0.2.2; omega)
    ·rw[e]; exact Ne.symm n1.2.2.1
    ·rw[e]; exact Ne.symm n2.2.2.2.1
    ·rw[e]; exact Ne.symm n2.2.2.2.2.1
    ·rw[e]; exact Ne.symm n2.2.2.2.2.2
   ·rw[Zd n1.2.2.2.2.2,Zx,hZ]
  have fin:∀ m,m<h.next->Ez n q m->m≠pc->m≠pD->m≠p11->((h2.put pD (.row 256 [Z] false)).put p11 (.row 1 [[.bool true]] false)).get m=h.get m:=fun m hm ho h1 h2 h3=>(Zd h3).trans ((Zd h2).trans (kc.2 m hm ho h1))
  have nD:((h2.put pD (.row 256 [Z] false)).put p11 (.row 1 [[.bool true]] false)).next=h2.next:=rfl
  cases fu2 with
  | false =>
   iterate 2 (first|apply Zu|apply Jc)
   have Jf:=El @t3 @t4 @t6 @t10 @t11 @t12 (Yw @t13 @hk @c6 @d6 @d11 @e0 @e1 @eN (Yw @dc @db @dD @xb @u4 @rc @Yl @Nat.zero_add @Nat.add_zero))
   iterate 2 (first|apply Zu|refine Zr Hh (Zp Za cP) Dv ?_)
   iterate 11 (first|apply Zu|apply Ye|refine Goes.Zl Dv ?_|refine Zr Hh (Zp Za ck) Dv ?_)
   iterate 6 (first|apply Zu|apply Ye|refine Goes.Zl Dv ?_|refine Zr Hh (EY Za (Za5 Hh)) Dv ?_)
   exact⟨rfl,BB,by rw[nD]; exact le2,fin⟩
  | true =>
   iterate 2 (first|apply Zu|apply Zmg)
   have Jf:=El @t3 @t4 @t6 @t10 @t11 @t12 (Yw @t13 @hk @c6 @d6 @d11 @e0 @e1 @eN (Yw @dc @db @dD @xb @u4 @rc @Yl @Nat.zero_add @Nat.add_zero))
   iterate 2 (first|apply Zu|refine Zr Hh (Zp Za cP) Dv ?_)
   iterate 11 (first|apply Zu|apply Ye|refine Goes.Zl Dv ?_|refine Zr Hh (Zp Za ck) Dv ?_)
   iterate 6 (first|apply Zu|apply Gr|refine Goes.Zl Dv ?_|refine Zr Hh (EY Za (Za5 Hh)) Dv ?_)
   exact (if_neg (show ¬(0=1) by decide)).mpr ⟨rfl,BB,by rw[nD]; exact le2,fin⟩
end
end Go.Proofs.YteiljiijagmonaaGreatDoor
