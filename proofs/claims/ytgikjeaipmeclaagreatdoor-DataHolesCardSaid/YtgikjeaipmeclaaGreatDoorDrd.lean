/- data.Read. -/
import Derived.Test.YtgikjeaipmeclaaGreatDoorDen
set_option linter.unusedSimpArgs false
set_option linter.unusedVariables false
set_option linter.unusedSectionVars false
set_option maxRecDepth 100000
set_option maxHeartbeats 4000000
namespace Go.Proofs.YtgikjeaipmeclaaGreatDoor
open Go.Ev
noncomputable def q8 (p:List Nat):Code:=piece p (Uq Tryz.f8)
theorem Zjs:q8 [1,1,1,1,1,1,0,1,2]=.rangeFunc (.tmp 49) #[50] (q8 [1,1,1,1,1,1,0,1,2,5]) (q8 [1,1,1,1,1,1,0,1,2,6]):=by kernel_rfl
theorem Zfz:q8 [1,1,1,1,1,1,0,1,2,5]=.region 11 (Zru (q8 [1,1,1,1,1,1,0,1,2,5])) false:=by kernel_rfl
theorem Zf3:q8 [1,1,1,1,1,1,0,1,2,6]=.block 1 (q8 [1,1,1,1,1,1,0,1,2,6,2]):=by kernel_rfl
theorem rs8:Tryz.f8.results.toList=[.cell 8 32,.cell 9 38]:=rfl
attribute [go_sem] rs8
def SlY (b:Nat) (h:Go.Ev.H) (c:C) (R:List Nat):Prop:=(R=[]∧c=.snil)∨∃ p,0<R.length∧c=.slice p 0 R.length 1∧h.get p=some (.row 1 (bsE R) false)∧b≤p∧p<h.next
structure RdJ (n q a b c e:Nat) (cr:Cr) (md:Int) (S T:List Nat) (V:Nat→List Nat) (F:Nat→Nat) (off len b0:Nat) (x:List C) (h0:Go.Ev.H) (d:Nat) (h:Go.Ev.H) (R:List Nat):Prop where
 M:HE n q a b c e cr md S T V h
 rs:RdS F off len d R
 al8:d=0∨d=len∨(off+d) % 256=0
 dl:d≤len
 c4:h.get b0=some (.row 1 [[.ptr (n+13) 0]] false)
 c5:h.get (b0+1)=some (.row 16 [x] false)
 c8:h.get (b0+2)=some (.row 1 [[.snil]] false)
 c9:h.get (b0+3)=some (.row 1 [[.int .i64 0]] false)
 cR:h.get (b0+4)=some (.row 1 (bsE R) false)
 c10:h.get (b0+5)=some (.row 1 [[.slice (b0+4) 0 len 1]] false)
 df:h.get (b0+8)=some .defers
 nx:b0+10≤h.next
 kp:∀ p,p<b0→p≠n+6→h.get p=h0.get p
structure RdT (b0:Nat) (ts:Zu):Prop where
 t4:Zk ts 4=.w (.c (.ptr b0 0))
 t5:Zk ts 5=.w (.c (.ptr (b0+1) 0))
 t8:Zk ts 8=.w (.c (.ptr (b0+2) 0))
 t9:Zk ts 9=.w (.c (.ptr (b0+3) 0))
 t10:Zk ts 10=.w (.c (.ptr (b0+5) 0))
theorem Zxu (k:Nat):bsE (List.replicate k 0)=List.replicate k [.int .u8 0]:=by unfold bsE; rw[List.map_replicate]; rfl
theorem Zx2 (h:Go.Ev.H) {k:Nat} (hk:k≤4096):Ji h (some ti5) (some k) (some k)=some (.w (.c (.slice h.next 0 k 1)),h.new (.row 1 (bsE (List.replicate k 0)) false)):=by
 have b1:Nat.ble k k=true:=Mf (Nat.le_refl k)
 have b2:Nat.ble (k * ti5.bytes) 1099511627776=true:=Mf (by show k * 1≤_; omega)
 have b3:Nat.ble k 1099511627776=true:=Mf (by omega)
 have e:List.replicate k ti5.zero.cells=bsE (List.replicate k 0):=(Zxu k).symm
 simp only[Ji,b1,b2,b3,Bool.and_self,cond_true,Jt,e]
 rfl
section
variable (Hh:Hearts K Tryz.prog)
include Hh
variable {n q a b c e:Nat} {cr:Cr} {md:Int} {S T:List Nat} {V:Nat→List Nat} {Al:(Nat→List Nat)→Nat→Prop} {blk:Nat→Nat} {cap:Nat} {mt nk:Nat→Prop} {F:Nat→Nat} {P:Nat→Nat} {lo i0 i1 off len b0 m d:Nat} {x:List C} {h0 h h2:Go.Ev.H} {R:List Nat}
omit Hh in
theorem RdJ.keep (J:RdJ n q a b c e cr md S T V F off len b0 x h0 d h R) (bq:q+9≤b0) (nx:h.next≤h2.next) (k:∀ p,p<h.next→p≠b0+9→h2.get p=h.get p):RdJ n q a b c e cr md S T V F off len b0 x h0 d h2 R:=by
 obtain⟨M,rs,al8,dl,c4,c5,c8,c9,cR,c10,df,nx',kp⟩:=J
 have kk:∀ p,p<b0+9→h2.get p=h.get p:=fun p hp=>k p (by omega) (by omega)
 exact⟨M.keep nx fun p hp=>kk p (by omega),rs,al8,dl,(kk _ (by omega)).trans c4,(kk _ (by omega)).trans c5,(kk _ (by omega)).trans c8,(kk _ (by omega)).trans c9,(kk _ (by omega)).trans cR,(kk _ (by omega)).trans c10,(kk _ (by omega)).trans df,by omega,fun p hp ho=>(kk p (by omega)).trans (kp p hp ho)⟩
theorem rdA (l:Nat) (ts:Zu) (u:List C) (ul:u.length=4) (h:Go.Ev.H):Goes K Tryz.prog 84 (some l) (q8 [1,1,1,1,1,1,0,1,2,5]) [] (ts.set 50 (.w (.g u))) h fun x ds' ts' h'=>x=.normal∧ds'=[]∧(∀ s,s≤10→Zk ts' s=Zk ts s)∧Zk ts' 11=.w (.c (.ptr h.next 0))∧h'.next=h.next+1∧(∀ m,m<h.next→h'.get m=h.get m)∧h'.get h.next=some (.row 4 [u] false):=by
 have ut:u.take 4=u:=List.take_of_length_le (by omega)
 have wr4:Z4 4 [[.int .i64 0,.int .i64 0,.int .i64 0,.int .i64 0]] 0 u=some [u]:=by
  match u,ul with
  | [u0,u1,u2,u3],_=>rfl
 (apply Goes.ops2 fits Hh Zc; · simp (maxSteps:=9^6) +decide (disch:=first|omega|(simp only[lens]<;>omega)|decide) only [go_sem,Za,simprocAttr,ul,ut,wr4]<;>rfl)
 refine⟨rfl,rfl,fun s hs=>?_,?_,?_,fun m hm=>?_,?_⟩
 ·simp (decide:=true) only [Yo hs]
 ·simp (maxSteps:=9^6) +decide (disch:=first|omega|(simp only[lens]<;>omega)|decide) only [go_sem,Zb,Za,simprocAttr]
 ·simp only[H.Zj,H.Zg]
 ·simp (disch:=first|omega|(simp only[lens]<;>omega)) only [go_sem]
 ·first|exact Z8 .. | (simp (maxSteps:=9^6) +decide (disch:=first|omega|(simp only[lens]<;>omega)|decide) only [go_sem,Zb,Za,simprocAttr]; done)|(simp (maxSteps:=9^6) +decide (disch:=first|omega|(simp only[lens]<;>omega)|decide) only [go_sem,Zb,Za,simprocAttr]<;>rfl)
theorem rdB (f:Y4 a b c e=true) (m1:md≠0) (A:Alc n q a b c e cr md S Al blk cap mt nk) (fs:FilS blk V P F lo m i0 i1) (mc:m≤cap) (X:InoP x P) (o36:off+len≤36 * 256) (bq:q+9≤b0) (nq:n+23≤q) (dl:d<len) {ts:Zu} {l pp:Nat} (E:RdT b0 ts) (t11:Zk ts 11=.w (.c (.ptr pp 0))) (hp:h.get pp=some (.row 4 [pcC off len d] false)) (pb:b0+10≤pp∧pp<h.next)
  (J:RdJ n q a b c e cr md S T V F off len b0 x h0 d h R) :
  Goes K Tryz.prog 84 (some l) (q8 [1,1,1,1,1,1,0,1,2,6]) [] ts h fun x' _ _ h'=>x'=.normal∧h'.get (b0+9)=h.get (b0+9)∧(∃ R,RdJ n q a b c e cr md S T V F off len b0 x h0 (pcN off len d) h' R)∧h.next≤h'.next∧h'.get (b0+6)=h.get (b0+6)∧h'.get (b0+7)=h.get (b0+7)∧∀ p y,b0+10≤p→p<h.next→h.get p=some (.row 4 [y] false)→h'.get p=some (.row 4 [y] false):=by
 obtain⟨t4,t5,t8,t9,t10⟩:=E
 obtain⟨M,rs,al8,dl',c4,c5,c8,c9,cR,c10,df,nx',kp⟩:=J
 have al0:d=0∨(off+d) % 256=0:=by omega
 obtain⟨_,_,al2⟩:=Zos dl al0
 have pn:=Zip (off:=off) dl
 have m8:=Nat.mod_lt (off+d) (show 0<256 by decide)
 have dm:=Nat.div_add_mod (off+d) 256
 have i36:(off+d) / 256<36:=by omega
 have pce:(off+d) % 256<pcE off len d∧pcE off len d≤256∧d+(pcE off len d - (off+d) % 256)≤len:=by unfold pcE; omega
 have rhas:=fun ns nl hb=>Z09 (R:=R) (ns:=ns) rs dl nl hb
 have rvoid:=Zyc rs dl
 obtain⟨i,hi⟩:∃ i,(off+d) / 256=i:=⟨_,rfl⟩
 obtain⟨fo,hf⟩:∃ fo,(off+d) % 256=fo:=⟨_,rfl⟩
 obtain⟨t,ht⟩:∃ t,pcE off len d=t:=⟨_,rfl⟩
 have rI:pcC off len d=[.int .i64 (i:Int),.int .i64 (fo:Int),.int .i64 (t:Int),.int .i64 (d:Int)]:=by rw[←hi,←hf,←ht]; rfl
 rw[hi] at i36 rvoid rhas
 rw[hf,ht] at pce rhas
 rw[rI] at hp
 have fi:=fs.fi
 have way:Zpy a b c e V (P (Yq i).1) (Yq i).2:=fun k hk hz=>by
  by_cases dd:i<8
  ·rw[Zcv dd] at hk; exact absurd hk (by simp)
  ·rw[Zct (by omega) (by omega)] at hk hz ⊢
   obtain rfl:k=0:=by simpa using hk
   have e8:Nk V (P 8) (List.take 0 [i - 8])=P 8:=rfl
   rw[e8] at hz ⊢
   obtain⟨k',k0,k1,k2⟩:=fi.i8.resolve_left hz
   rw[k2]
   have o:=A.ours k' (by omega)
   exact⟨o.1,o.2.1⟩
 obtain⟨hB,c12,MB,kB⟩:=Zpw Hh f m1 M X i36 way
 have xl:=X.xl
 have nB:=kB.1
 have keep:∀ p,p<h.next→q+9≤p→hB.get p=h.get p:=fun p hp hq=>kB.2 p hp (by omega)
 have b4:=(keep b0 (by omega) (by omega)).trans c4
 have b10:=(keep (b0+5) (by omega) (by omega)).trans c10
 have bR:=(keep (b0+4) (by omega) (by omega)).trans cR
 have bp:=(keep pp (by omega) (by omega)).trans hp
 by_cases z0:Je V P i=0
 ·have eb:(((Je V P i:Nat):Int) == 0)=true:=Nn (by omega)
  have hv:=rvoid fun p hp=>fs.out p fun w=>(fs.hang i (by omega) (by omega)).1 z0
  iterate 2 (first|apply Goes.seq|apply Goes.block)
  iterate 11 (first|apply Goes.seq|apply Goes.skip|apply Goes.exit|((first|apply Goes.Zm|apply Goes.ops2 fits Hh (Zt Zc c12)); · simp (maxSteps:=9^6) +decide (disch:=first|omega|(simp only[lens]<;>omega)|decide) only [go_sem,Za,simprocAttr,Zy,Y7,p40,p41,p42,p43,t4,t5,t8,t9,t10,t11,c4,c5,hp,xl,eb,Zx]<;>rfl))
  refine⟨rfl,keep _ (by omega) (by omega),⟨R,MB,hv,by omega,pn.2,b4,(keep _ (by omega) (by omega)).trans c5,(keep _ (by omega) (by omega)).trans c8,(keep _ (by omega) (by omega)).trans c9,bR,b10,(keep _ (by omega) (by omega)).trans df,by omega,fun p hp ho=>(kB.2 p (by omega) ho).trans (kp p hp ho)⟩,nB,keep _ (by omega) (by omega),keep _ (by omega) (by omega),fun p y h1 h2 h3=>(keep p h2 (by omega)).trans h3⟩
 ·have eb:(((Je V P i:Nat):Int) == 0)=false:=Dx (by omega)
  have ii:i0≤i∧i<i1:=by
   apply Classical.byContradiction
   intro w
   exact z0 (fs.void i (by omega) w)
  obtain⟨_,hb⟩:=fs.hang i ii.1 ii.2
  obtain⟨kz,kz0,kz1,kz2⟩:=(fi.bl i (by omega)).resolve_left z0
  obtain⟨o1,o2,o3,o4,o5⟩:=A.ours kz (by omega)
  rw[←kz2] at o1 o2
  have vl:=M.len o1 o2
  have rh:=rhas _ vl hb
  obtain⟨z,hzz⟩:∃ z,Je V P i=z:=⟨_,rfl⟩
  rw[hzz] at o1 o2 vl rh eb c12
  have hG:=fun {h1:Go.Ev.H} (M1:HE n q a b c e cr md S T V h1)=>M1.get f o1 o2
  obtain⟨hG1,eG,MG,nG,rG⟩:=hG MB
  have c16:=D7 Hh eG
  have Rl:=rs.1
  have cp:=fun {h:Go.Ev.H} {te:TI} {p:Nat} (t1:te.size=1) (hb:h.get p=some (.row 256 [pgL (V z)] false)) (hm:h.get (b0+4)=some (.row 1 (bsE R) false))=>Z1c (f:=fo) (k:=t - fo) (a:=d) (l:=len - d) t1 hb hm vl (by omega) (by omega) (by omega) (by omega)
  obtain⟨R',hR'⟩:∃ R',cpN R d (((V z).drop fo).take (t - fo))=R':=⟨_,rfl⟩
  rw[hR'] at cp rh
  have r5:read1 256 [pgL (V z)] 255=some (.int .u8 ((atN (V z) 255:Nat):Int)):=Zhz ⟨by decide,by omega⟩
  have vl2:(pgL (V z)).length=256:=by rw[Ug,vl]
  have g10:=(rG (b0+5) (by omega) (by omega)).trans b10
  have gR:=(rG (b0+4) (by omega) (by omega)).trans bR
  have gp:=(rG pp (by omega) (by omega)).trans bp
  have keep2:∀ p,p<h.next→q+9≤p→hG1.get p=h.get p:=fun p hp hq=>(rG p (by omega) (by omega)).trans (keep p hp hq)
  iterate 2 (first|apply Goes.seq|apply Goes.block)
  iterate 12 (first|apply Goes.seq|apply Goes.skip|((first|apply Goes.Zm|apply Goes.ops2 fits Hh (Zt Zc c12)); · simp (maxSteps:=9^6) +decide (disch:=first|omega|(simp only[lens]<;>omega)|decide) only [go_sem,Za,simprocAttr,Zy,Y7,p40,p41,p42,p43,t4,t5,t8,t9,t10,t11,c4,c5,b4,hp,xl,eb,vl2,Zx]<;>rfl))
  iterate 6 (first|apply Goes.seq|apply Goes.skip|((first|apply Goes.Zm|apply Goes.ops2 fits Hh (Zt Zc c16)); · simp (maxSteps:=9^6) +decide (disch:=first|omega|(simp only[lens]<;>omega)|decide) only [go_sem,Za,simprocAttr,Zy,Y7,p40,p41,p42,p43,t4,t5,t8,t9,t10,t11,c4,c5,b4,hp,xl,eb,vl2,Zx]<;>rfl))
  refine Goes.abs fun hD eD=>?_
  have nD:hD.next=hG1.next+1:=by rw[eD]; simp only[H.Zj,H.Zg]
  have kD:∀ p,p<hG1.next→hD.get p=hG1.get p:=fun p hp=>by rw[eD]; simp (disch:=first|omega|(simp only[lens]<;>omega)) only [go_sem]
  have D14:hD.get hG1.next=some (.row 256 [pgL (V z)] false):=by rw[eD]; first|exact Z8 .. | (simp (maxSteps:=9^6) +decide (disch:=first|omega|(simp only[lens]<;>omega)|decide) only [go_sem,Zb,Za,simprocAttr]; done)|(simp (maxSteps:=9^6) +decide (disch:=first|omega|(simp only[lens]<;>omega)|decide) only [go_sem,Zb,Za,simprocAttr]<;>rfl)
  clear eD
  have D10:=(kD _ (by omega)).trans g10
  have DR:=(kD _ (by omega)).trans gR
  have Dp:=(kD _ (by omega)).trans gp
  have MD:=MG.keep (h2:=hD) (by omega) fun p hp=>kD p (by omega)
  (apply Goes.drawn2 fits Hh Zc (by kernel_rfl); · simp (maxSteps:=9^6) +decide (disch:=first|omega|(simp only[lens]<;>omega)|decide) only [go_sem,Za,simprocAttr,drG,Y7,p40,p41,p42,p43,t4,t5,t8,t9,t10,t11,c4,c5,b4,hp,xl,eb,vl2,D10,DR,Dp,D14,cp,r5,X9,tA1,tA0,p40,p41,p42,p43,Y0,Uc,bound,Ui,reaches,Gx,Nat.add_zero,Nat.zero_add,Nat.mul_one,Zx]<;>rfl)
  refine⟨rfl,?_,⟨R',?_⟩,?_,?_,?_,fun p y h1 h2 h3=>?_⟩
  ·rw[Zp (by omega),kD _ (by omega)]; exact keep2 _ (by omega) (by omega)
  ·have kk:∀ p,p<h.next→q+9≤p→p≠b0+4→(hD.put (b0+4) (.row 1 (bsE R') false)).get p=h.get p:=fun p h1 h2 h3=>by rw[Zp h3,kD p (by omega)]; exact keep2 p h1 h2
   exact⟨MD.keep (by rw[H.Zj]; omega) fun p hp=>Zp (by omega),rh,by omega,pn.2,(kk _ (by omega) (by omega) (by omega)).trans c4,(kk _ (by omega) (by omega) (by omega)).trans c5,(kk _ (by omega) (by omega) (by omega)).trans c8,(kk _ (by omega) (by omega) (by omega)).trans c9,Z8 ..,(kk _ (by omega) (by omega) (by omega)).trans c10,(kk _ (by omega) (by omega) (by omega)).trans df,by rw[H.Zj]; omega,fun p hp ho=>by rw[Zp (by omega),kD p (by omega),rG p (by omega) ho,kB.2 p (by omega) ho]; exact kp p hp ho⟩
  ·rw[H.Zj]; omega
  ·rw[Zp (by omega),kD _ (by omega)]; exact keep2 _ (by omega) (by omega)
  ·rw[Zp (by omega),kD _ (by omega)]; exact keep2 _ (by omega) (by omega)
  ·rw[Zp (by omega),kD _ (by omega)]; exact (keep2 _ (by omega) (by omega)).trans h3
theorem Zio (f:Y4 a b c e=true) (m1:md≠0) (A:Alc n q a b c e cr md S Al blk cap mt nk) (M:HE n q a b c e cr md S T V h) (fs:FilS blk V P F lo m i0 i1) (mc:m≤cap) (X:InoP x P) {size num:Nat} (sz:O8 x=some (size:Int)) (s36:size≤36 * 256) (n4:num≤4096) (o2:off≤16777216) :
  ∃ h' s R,Ze K Tryz.prog 8 [.c (.ptr (n+13) 0),.g x,.c (.int .i64 (off:Int)),.c (.int .i64 (num:Int))] h (.tup [.c s,.c (.int .i64 0)]) h'∧HE n q a b c e cr md S T V h'∧Kr n q h h'∧SlY h.next h' s R∧R.length=min num (size - off)∧∀ j,j<R.length→atN R j=F (off+j):=by
 obtain⟨nq,nx,n0⟩:=M.nx
 obtain⟨st,⟨kn,hs⟩,⟨dk,gl⟩,ht⟩:=M.cells
 unfold gdL gdD at gl
 have dm:(md != 0)=true:=Xx m1
 obtain⟨xl,rx⟩:=Jq sz
 have z0:decide ((0:Int)≤(size:Int))=true:=decide_eq_true (by omega)
 have z1:decide ((size:Int)≤16777216)=true:=decide_eq_true (by omega)
 have d1:decide ((off:Int)<0)=false:=decide_eq_false (by omega)
 have d2:decide ((num:Int)<0)=false:=decide_eq_false (by omega)
 have d3:decide ((num:Int) > 4096)=false:=decide_eq_false (by omega)
 by_cases em:size≤off∨num=0
 ·have d4:decide ((off:Int) ≥ (size:Int))=decide (size≤off):=by rw[decide_eq_decide]; omega
  have d5:((num:Int) == 0)=decide (num=0):=by
   by_cases w:num=0
   ·rw[decide_eq_true w]; exact Nn (by omega)
   ·rw[decide_eq_false w]; exact Dx (by omega)
  have d6:size≤off→decide (size≤off)=true:=decide_eq_true
  obtain⟨v,h',cc,rfl,hk⟩:∃ v h',Ze K Tryz.prog 8 [.c (.ptr (n+13) 0),.g x,.c (.int .i64 (off:Int)),.c (.int .i64 (num:Int))] h v h'∧v=.tup [.c .snil,.c (.int .i64 0)]∧h.next≤h'.next∧∀ m,m<h.next→h'.get m=h.get m:=by
   by_cases w:size≤off
   ·rw[decide_eq_true w] at d4
    refine Ze.Yi fits Hh (by kernel_rfl) (by kernel_rfl) (by kernel_rfl) (show Tryz.f8.body=some _ from rfl) rfl ?_
    iterate 9 (first|apply Goes.seq|apply Goes.skip|((first|apply Goes.Zm|apply Goes.ops2 fits Hh (Zf Zc (fun _ _ _ _=>Eh Hh))); · simp (maxSteps:=9^6) +decide (disch:=first|omega|(simp only[lens]<;>omega)|decide) only [go_sem,Za,simprocAttr,f,Y7,hs,stG,gl,dm,xl,rx,z0,z1,d1,d2,d3,d4,sz,Zx]<;>rfl))
    refine Goes.ops2 fits Hh (Zf Zc (fun _ _ _ _=>En Hh)) (by
     iterate 11 (refine Zz (by simp (maxSteps:=9^6) +decide (disch:=first|omega|(simp only[lens]<;>omega)|decide) only [go_sem,Za,simprocAttr,f,Y7,hs,stG,gl,dm,xl,rx,z0,z1,d1,d2,d3,d4,sz,Zx]<;>rfl) ?_)
     exact Z0) ?_
    iterate 9 (first|apply Goes.seq|apply Goes.skip|((first|apply Goes.Zm|apply Goes.ops2 fits Hh Zc); · simp (maxSteps:=9^6) +decide (disch:=first|omega|(simp only[lens]<;>omega)|decide) only [go_sem,Za,simprocAttr,f,Y7,hs,stG,gl,dm,xl,rx,z0,z1,d1,d2,d3,d4,sz,Zx]<;>rfl))
    refine Goes.ops2 fits Hh Zc (by
     iterate 8 (refine Zz (by simp (maxSteps:=9^6) +decide (disch:=first|omega|(simp only[lens]<;>omega)|decide) only [go_sem,Za,simprocAttr,f,Y7,hs,stG,gl,dm,xl,rx,z0,z1,d1,d2,d3,d4,sz,Zx]<;>rfl) ?_)
     exact Z0) ?_
    iterate 4 (first|apply Goes.seq|apply Goes.ret|((first|apply Goes.Zm|apply Goes.ops2 fits Hh Zc); · simp (maxSteps:=9^6) +decide (disch:=first|omega|(simp only[lens]<;>omega)|decide) only [go_sem,Za,simprocAttr,f,Y7,hs,stG,gl,dm,xl,rx,z0,z1,d1,d2,d3,d4,sz,Zx]<;>rfl))
    refine⟨_,_,(by simp (maxSteps:=9^6) +decide (disch:=first|omega|(simp only[lens]<;>omega)|decide) only [go_sem,Za,simprocAttr,Y7]<;>rfl),rfl,?_,fun m hm=>?_⟩
    ·simp only[H.Zj,H.Zg]<;>omega
    ·simp (disch:=first|omega|(simp only[lens]<;>omega)) only [go_sem]
   ·rw[decide_eq_false w] at d4
    rw[decide_eq_true (em.resolve_left w)] at d5
    refine Ze.Yi fits Hh (by kernel_rfl) (by kernel_rfl) (by kernel_rfl) (show Tryz.f8.body=some _ from rfl) rfl ?_
    iterate 9 (first|apply Goes.seq|apply Goes.skip|((first|apply Goes.Zm|apply Goes.ops2 fits Hh (Zf Zc (fun _ _ _ _=>Eh Hh))); · simp (maxSteps:=9^6) +decide (disch:=first|omega|(simp only[lens]<;>omega)|decide) only [go_sem,Za,simprocAttr,f,Y7,hs,stG,gl,dm,xl,rx,z0,z1,d1,d2,d3,d4,d5,sz,Zx]<;>rfl))
    refine Goes.ops2 fits Hh (Zf Zc (fun _ _ _ _=>En Hh)) (by
     iterate 11 (refine Zz (by simp (maxSteps:=9^6) +decide (disch:=first|omega|(simp only[lens]<;>omega)|decide) only [go_sem,Za,simprocAttr,f,Y7,hs,stG,gl,dm,xl,rx,z0,z1,d1,d2,d3,d4,d5,sz,Zx]<;>rfl) ?_)
     exact Z0) ?_
    iterate 9 (first|apply Goes.seq|apply Goes.skip|((first|apply Goes.Zm|apply Goes.ops2 fits Hh Zc); · simp (maxSteps:=9^6) +decide (disch:=first|omega|(simp only[lens]<;>omega)|decide) only [go_sem,Za,simprocAttr,f,Y7,hs,stG,gl,dm,xl,rx,z0,z1,d1,d2,d3,d4,d5,sz,Zx]<;>rfl))
    refine Goes.ops2 fits Hh Zc (by
     iterate 8 (refine Zz (by simp (maxSteps:=9^6) +decide (disch:=first|omega|(simp only[lens]<;>omega)|decide) only [go_sem,Za,simprocAttr,f,Y7,hs,stG,gl,dm,xl,rx,z0,z1,d1,d2,d3,d4,d5,sz,Zx]<;>rfl) ?_)
     exact Z0) ?_
    iterate 4 (first|apply Goes.seq|apply Goes.ret|((first|apply Goes.Zm|apply Goes.ops2 fits Hh Zc); · simp (maxSteps:=9^6) +decide (disch:=first|omega|(simp only[lens]<;>omega)|decide) only [go_sem,Za,simprocAttr,f,Y7,hs,stG,gl,dm,xl,rx,z0,z1,d1,d2,d3,d4,d5,sz,Zx]<;>rfl))
    refine⟨_,_,(by simp (maxSteps:=9^6) +decide (disch:=first|omega|(simp only[lens]<;>omega)|decide) only [go_sem,Za,simprocAttr,Y7]<;>rfl),rfl,?_,fun m hm=>?_⟩
    ·simp only[H.Zj,H.Zg]<;>omega
    ·simp (disch:=first|omega|(simp only[lens]<;>omega)) only [go_sem]
  refine⟨h',.snil,[],cc,M.keep hk.1 fun p hp=>hk.2 p (by omega),⟨hk.1,fun p hp _=>hk.2 p hp⟩,.inl ⟨rfl,rfl⟩,?_,fun j hj=>absurd hj (by simp)⟩
  simp only[List.length_nil]
  omega
 ·have d4:decide ((off:Int) ≥ (size:Int))=false:=decide_eq_false (by omega)
  have d5:((num:Int) == 0)=false:=Dx (by omega)
  obtain⟨len,hlen⟩:∃ len,min num (size - off)=len:=⟨_,rfl⟩
  have len0:0<len:=by omega
  have l36:off+len≤36 * 256:=by omega
  have l4:len≤4096:=by omega
  have mn:(if (size:Int) - (off:Int)<(num:Int) then (size:Int) - (off:Int) else (num:Int))=(len:Int):=by split<;>omega
  have c10:=fun h=>Zbg Hh off len h
  have ms:=fun h=>Zx2 h l4
  have lfy:=Vu
  obtain⟨v,h',cc,R,rfl,M',k',hR,rs⟩:∃ v h',Ze K Tryz.prog 8 [.c (.ptr (n+13) 0),.g x,.c (.int .i64 (off:Int)),.c (.int .i64 (num:Int))] h v h'∧∃ R,v=.tup [.c (.slice (h.next+4) 0 len 1),.c (.int .i64 0)]∧HE n q a b c e cr md S T V h'∧Kr n q h h'∧h'.get (h.next+4)=some (.row 1 (bsE R) false)∧RdS F off len len R∧h.next+4<h'.next:=by
   refine Ze.Yi fits Hh (by kernel_rfl) (by kernel_rfl) (by kernel_rfl) (show Tryz.f8.body=some _ from rfl) rfl ?_
   iterate 9 (first|apply Goes.seq|apply Goes.skip|((first|apply Goes.Zm|apply Goes.ops2 fits Hh (Zf Zc (fun _ _ _ _=>Eh Hh))); · simp (maxSteps:=9^6) +decide (disch:=first|omega|(simp only[lens]<;>omega)|decide) only [go_sem,Za,simprocAttr,f,Y7,hs,stG,gl,dm,xl,rx,z0,z1,d1,d2,d3,d4,d5,mn,ms,lfy,sz,Zx,Zh,Ye]<;>rfl))
   refine Goes.ops2 fits Hh (Zf Zc (fun _ _ _ _=>En Hh)) (by
    iterate 11 (refine Zz (by simp (maxSteps:=9^6) +decide (disch:=first|omega|(simp only[lens]<;>omega)|decide) only [go_sem,Za,simprocAttr,f,Y7,hs,stG,gl,dm,xl,rx,z0,z1,d1,d2,d3,d4,d5,mn,ms,lfy,sz,Zx,Zh,Ye]<;>rfl) ?_)
    exact Z0) ?_
   iterate 9 (first|apply Goes.seq|apply Goes.skip|((first|apply Goes.Zm|apply Goes.ops2 fits Hh Zc); · simp (maxSteps:=9^6) +decide (disch:=first|omega|(simp only[lens]<;>omega)|decide) only [go_sem,Za,simprocAttr,f,Y7,hs,stG,gl,dm,xl,rx,z0,z1,d1,d2,d3,d4,d5,mn,ms,lfy,sz,Zx,Zh,Ye]<;>rfl))
   refine Goes.ops2 fits Hh Zc (by
    iterate 8 (refine Zz (by simp (maxSteps:=9^6) +decide (disch:=first|omega|(simp only[lens]<;>omega)|decide) only [go_sem,Za,simprocAttr,f,Y7,hs,stG,gl,dm,xl,rx,z0,z1,d1,d2,d3,d4,d5,mn,ms,lfy,sz,Zx,Zh,Ye]<;>rfl) ?_)
    exact Z0) ?_
   iterate 3 (first|apply Goes.seq|apply Goes.skip|(apply Goes.Zm; · simp (maxSteps:=9^6) +decide (disch:=first|omega|(simp only[lens]<;>omega)|decide) only [go_sem,Za,simprocAttr,f,Y7,hs,stG,gl,dm,xl,rx,z0,z1,d1,d2,d3,d4,d5,mn,ms,lfy,sz,Zx,Zh,Ye]<;>rfl))
   refine Goes.ops2 fits Hh Zc (by
    iterate 9 (refine Zz (by simp (maxSteps:=9^6) +decide (disch:=first|omega|(simp only[lens]<;>omega)|decide) only [go_sem,Za,simprocAttr,f,Y7,hs,stG,gl,dm,xl,rx,z0,z1,d1,d2,d3,d4,d5,mn,ms,lfy,sz,Zx,Zh,Ye]<;>rfl) ?_)
    exact Z0) ?_
   iterate 2 (apply Goes.seq)
   iterate 2 (first|apply Goes.block|(apply Goes.ops2 fits Hh (J6 Zc c10); · simp (maxSteps:=9^6) +decide (disch:=first|omega|(simp only[lens]<;>omega)|decide) only [go_sem,Za,simprocAttr,f,Y7,hs,stG,gl,dm,xl,rx,z0,z1,d1,d2,d3,d4,d5,mn,ms,lfy,sz,Zx,Zh,Ye]<;>rfl))
   refine Goes.abs fun hC eC=>?_
   have nC:hC.next=h.next+8:=by rw[eC]; simp only[H.Zj,H.Zg]
   have kC:∀ m,m<h.next→hC.get m=h.get m:=fun m hm=>by rw[eC]; simp (disch:=first|omega|(simp only[lens]<;>omega)) only [go_sem]
   have a4:hC.get h.next=some (.row 1 [[.ptr (n+13) 0]] false):=by rw[eC]; simp (maxSteps:=9^6) +decide (disch:=first|omega|(simp only[lens]<;>omega)|decide) only [go_sem,Zb,Za,simprocAttr]<;>rfl
   have a5:hC.get (h.next+1)=some (.row 16 [x] false):=by rw[eC]; simp (maxSteps:=9^6) +decide (disch:=first|omega|(simp only[lens]<;>omega)|decide) only [go_sem,Za,simprocAttr,xl]<;>rfl
   have a8:hC.get (h.next+2)=some (.row 1 [[.snil]] false):=by rw[eC]; simp (maxSteps:=9^6) +decide (disch:=first|omega|(simp only[lens]<;>omega)|decide) only [go_sem,Zb,Za,simprocAttr]<;>rfl
   have a9:hC.get (h.next+3)=some (.row 1 [[.int .i64 0]] false):=by rw[eC]; simp (maxSteps:=9^6) +decide (disch:=first|omega|(simp only[lens]<;>omega)|decide) only [go_sem,Zb,Za,simprocAttr]<;>rfl
   have aR:hC.get (h.next+4)=some (.row 1 (bsE (List.replicate len 0)) false):=by rw[eC]; simp (maxSteps:=9^6) +decide (disch:=first|omega|(simp only[lens]<;>omega)|decide) only [go_sem,Zb,Za,simprocAttr]<;>rfl
   have a10:hC.get (h.next+5)=some (.row 1 [[.slice (h.next+4) 0 len 1]] false):=by rw[eC]; simp (maxSteps:=9^6) +decide (disch:=first|omega|(simp only[lens]<;>omega)|decide) only [go_sem,Zb,Za,simprocAttr]<;>rfl
   have a6:hC.get (h.next+6)=some (.row 1 [[.int .i64 (off:Int)]] false):=by rw[eC]; simp (maxSteps:=9^6) +decide (disch:=first|omega|(simp only[lens]<;>omega)|decide) only [go_sem,Zb,Za,simprocAttr]<;>rfl
   have a7:hC.get (h.next+7)=some (.row 1 [[.int .i64 (len:Int)]] false):=by rw[eC]; simp (maxSteps:=9^6) +decide (disch:=first|omega|(simp only[lens]<;>omega)|decide) only [go_sem,Zb,Za,simprocAttr]<;>rfl
   clear eC
   have ne:(q8 [1,1,1,1,1,1,0,1,2,6])≠(q8 [1,1,1,1,1,1,0,1,2,5]):=fun e1=>by
    rw[Zf3,Zfz] at e1
    cases e1
   show Goes K Tryz.prog 84 none (q8 [1,1,1,1,1,1,0,1,2]) _ _ _ _
   rw[Zjs]
   refine Zwi fun ts hts=>?_
   have ET:RdT h.next ts:=by
    rw[hts]
    exact⟨by simp (maxSteps:=9^6) +decide (disch:=first|omega|(simp only[lens]<;>omega)|decide) only [go_sem,Zb,Za,simprocAttr]<;>rfl,by simp (maxSteps:=9^6) +decide (disch:=first|omega|(simp only[lens]<;>omega)|decide) only [go_sem,Zb,Za,simprocAttr]<;>rfl,by simp (maxSteps:=9^6) +decide (disch:=first|omega|(simp only[lens]<;>omega)|decide) only [go_sem,Zb,Za,simprocAttr]<;>rfl,by simp (maxSteps:=9^6) +decide (disch:=first|omega|(simp only[lens]<;>omega)|decide) only [go_sem,Zb,Za,simprocAttr]<;>rfl,by simp (maxSteps:=9^6) +decide (disch:=first|omega|(simp only[lens]<;>omega)|decide) only [go_sem,Zb,Za,simprocAttr]<;>rfl⟩
   have e20:Zv K ts (.tmp 49)=some (.fn 37 [] [some (h.next+6+1,0),some (h.next+6,0)]):=by
    rw[hts]
    simp (maxSteps:=9^6) +decide (disch:=first|omega|(simp only[lens]<;>omega)|decide) only [go_sem,Zb,Za,simprocAttr]<;>rfl
   refine (Zjc Hh (off:=off) (len:=len) (bO:=h.next+6) (ts:=ts) (I:=fun d h2=>∃ R,RdJ n q a b c e cr md S T V F off len h.next x h d h2 R) (JT:=fun ts' pp=>RdT h.next ts'∧Zk ts' 11=.w (.c (.ptr pp 0))) ne (by omega) o2 (by omega) ?_ ?_ ?_ nC a6 a7 e20 ?_).mono ?_
   ·exact fun d h1 h2 ⟨R,J⟩ nx' k=>⟨R,J.keep nx nx' k⟩
   ·exact fun u h1 ul=>(rdA Hh (h.next+6+3) ts u ul h1).mono fun x' ds' ts' h' ⟨e1,e2,t1,t12,n1,k1,r1⟩=>⟨e1,e2,⟨⟨(t1 4 (by decide)).trans ET.t4,(t1 5 (by decide)).trans ET.t5,(t1 8 (by decide)).trans ET.t8,(t1 9 (by decide)).trans ET.t9,(t1 10 (by decide)).trans ET.t10⟩,t12⟩,n1,k1,r1⟩
   ·exact fun d ts' h1 pp dl ⟨E',t12⟩ hp p1 p2 ⟨R,J⟩=>rdB Hh f m1 A fs mc X l36 nx nq dl E' t12 hp ⟨p1,p2⟩ J
   ·exact fun h2 n2 d2 k2=>⟨_,M.keep (by omega) fun p hp=>(k2 p (by omega)).trans (kC p (by omega)),Zzs F off len,.inl rfl,by omega,(k2 _ (by omega)).trans a4,(k2 _ (by omega)).trans a5,(k2 _ (by omega)).trans a8,(k2 _ (by omega)).trans a9,(k2 _ (by omega)).trans aR,(k2 _ (by omega)).trans a10,d2,n2,fun p hp _=>(k2 p (by omega)).trans (kC p hp)⟩
   rintro x1 ds1 ts1 h1 ⟨rfl,rfl,rfl,R,J⟩
   subst hts
   obtain⟨M',rs',al8',dl',c4',c5',c8',c9',cR',c10',df',nx',kp'⟩:=J
   have gd':h1.get (h.next+6+2)=some .defers:=df'
   iterate 3 (first|apply Goes.seq|apply Goes.ret|(apply Goes.ops2 fits Hh Zc; · simp (maxSteps:=9^6) +decide (disch:=first|omega|(simp only[lens]<;>omega)|decide) only [go_sem,Za,simprocAttr,f,Y7,hs,stG,gl,dm,xl,rx,z0,z1,d1,d2,d3,d4,d5,mn,ms,lfy,sz,c4',c5',c8',c9',c10',gd',Zx,Zh,Ye]<;>rfl))
   refine⟨_,_,(by simp (maxSteps:=9^6) +decide (disch:=first|omega|(simp only[lens]<;>omega)|decide) only [go_sem,Za,simprocAttr,gd',Y7]<;>rfl),R,rfl,M'.keep ?_ fun p hp=>?_,⟨?_,fun p hp ho=>?_⟩,?_,rs',?_⟩
   ·simp only[H.Zj,H.Zg,H.Zr]<;>omega
   ·simp (disch:=first|omega|(simp only[lens]<;>omega)) only [go_sem]
   ·simp only[H.Zj,H.Zg,H.Zr]<;>omega
   ·refine Eq.trans ?_ (kp' p hp ho); simp (disch:=first|omega|(simp only[lens]<;>omega)) only [go_sem]
   ·refine Eq.trans ?_ cR'; simp (disch:=first|omega|(simp only[lens]<;>omega)) only [go_sem]
   ·simp only[H.Zj,H.Zg,H.Zr]<;>omega
  have Rl:=rs.1.1
  refine⟨h',_,R,cc,M',k',.inr ⟨h.next+4,by omega,by rw[Rl],hR,by omega,rs.2⟩,by omega,fun j hj=>?_⟩
  rw[rs.1.2 j (by omega),if_pos (by omega)]
end
end Go.Proofs.YtgikjeaipmeclaaGreatDoor
