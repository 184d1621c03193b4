/- inode.Get, of any page at any place. -/
import Derived.Test.YtdkcjalmhdofcaaGreatDoorIbk
import Derived.Test.YtdkcjalmhdofcaaGreatDoorNew2
import Derived.Test.YtdkcjalmhdofcaaGreatDoorEvC
set_option linter.unusedSimpArgs false
set_option linter.unusedVariables false
set_option linter.unusedSectionVars false
set_option maxRecDepth 100000
set_option maxHeartbeats 4000000
namespace Go.Proofs.YtdkcjalmhdofcaaGreatDoor
open Go.Ev
noncomputable def q46 (p:List Nat):Code:=piece p (Jz Tryz.f46)
theorem W9:q46 [1,1,1,1,1,1,1,1,1,1,0,1,2]=.rangeFunc (.tmp 61) #[62,63] (q46 [1,1,1,1,1,1,1,1,1,1,0,1,2,5]) (q46 [1,1,1,1,1,1,1,1,1,1,0,1,2,6]):=by kernel_rfl
theorem Wm:q46 [1,1,1,1,1,1,1,1,1,1,0,1,2,5]=.seq (q46 [1,1,1,1,1,1,1,1,1,1,0,1,2,5,0]) (q46 [1,1,1,1,1,1,1,1,1,1,0,1,2,5,1]):=by kernel_rfl
theorem Wz:q46 [1,1,1,1,1,1,1,1,1,1,0,1,2,6]=.block 1 (q46 [1,1,1,1,1,1,1,1,1,1,0,1,2,6,2]):=by kernel_rfl
noncomputable def q142 (p:List Nat):Code:=piece p (Jz Tryz.f142)
theorem rs46:Tryz.f46.results.toList=[.cell 4 47,.tmp 5]:=rfl
theorem rs97:Tryz.f97.results.toList=[.tmp 2]:=rfl
theorem rs142:Tryz.f142.results.toList=[]:=rfl
attribute [go_sem] rs46 rs97 rs142
theorem rs141:Tryz.f141.results.toList=[.tmp 2]:=rfl
attribute [go_sem] rs141
def tlL (ms:List Nat):List (List C):=ms.map fun n=>[.int .u8 ((n % 256:Nat):Int)]
theorem Zuy (ms:List Nat):(tlL ms).length=ms.length:=by simp [tlL]
theorem rdT {ms:List Nat} {i:Nat} (h:i<ms.length):read1 1 (tlL ms) i=some (.int .u8 ((atN ms i:Nat):Int)):=by
 unfold read1 tlL atN
 rw[Nat.div_one,Nat.mod_one,List.getElem?_map,List.getElem?_eq_getElem h,List.getD_eq_getElem?_getD,List.getElem?_eq_getElem h]
 rfl
theorem Zgp:∀ ms:List Nat,chunks 1 ms.length (pgL ms)=tlL ms
 | []=>rfl
 | n :: ms=>by
  show _ :: chunks 1 ms.length (pgL ms)=_
  rw[Zgp ms]
  rfl
theorem Zyx {ns:List Nat} {p k:Nat} (hl:ns.length=256) (h:p+k≤256) (k0:0<k):Zd 256 [pgL ns] p k=some (pgL ((ns.drop p).take k)):=by
 unfold Zd
 rw[Nat.div_eq_of_lt (by omega),Nat.mod_eq_of_lt (by omega),List.getElem?_cons_zero]
 cases hk:Nat.beq k 0 with
 | true=>have:=Nat.eq_of_beq_eq_true hk; omega
 | false =>
  simp only[cond_false,Ob,hl,Nat.ble_eq_true_of_le h,cond_true]
  unfold pgL
  rw[List.map_take,List.map_drop]
theorem Zyi {ns:List Nat} {p k:Nat} (hl:ns.length=256) (h:p+k≤256) (k0:0<k):Df 256 [pgL ns] p 1 k=some (tlL ((ns.drop p).take k)):=by
 have e:((ns.drop p).take k).length=k:=by rw[List.length_take,List.length_drop]; omega
 unfold Df
 cases hk:Nat.beq k 0 with
 | true=>have:=Nat.eq_of_beq_eq_true hk; omega
 | false =>
  rw[Nat.mul_one,Zyx hl h k0]
  show some (chunks 1 k _)=_
  rw[←Zgp,e]
theorem Zjj {ns:List Nat} {p k i:Nat} (h:i<k):atN ((ns.drop p).take k) i=atN ns (p+i):=by
 unfold atN
 rw[List.getD_eq_getElem?_getD,List.getD_eq_getElem?_getD,List.getElem?_take_of_lt h,List.getElem?_drop]
theorem Zwy {ns:List Nat} {p k i:Nat} (h:i+4≤k):Yi ((ns.drop p).take k) i=Yi ns (p+i):=by
 unfold Yi
 rw[Zjj (by omega),Zjj (by omega),Zjj (by omega),Zjj (by omega)]
 rfl
theorem Zme {ns:List Nat} {p k:Nat}:∀ {n i:Nat},i+4 * n≤k→Mt ((ns.drop p).take k) i n=Mt ns (p+i) n
 | 0,_,_=>rfl
 | n+1,i,h=>by
  unfold Mt
  rw[Zwy (by omega),Zme (by omega)]
  rfl
def Zl8 (X:List C) (i:Nat):List Nat→List C
 | []=>X
 | v :: vs=>Zl8 (X.set i (.int .u32 v)) (i+1) vs
theorem Zl9:∀ (vs:List Nat) (X:List C) (i:Nat),(Zl8 X i vs).length=X.length
 | [],_,_=>rfl
 | v :: vs,X,i=>by
  unfold Zl8
  rw[Zl9 vs,List.length_set]
theorem Zp1:∀ ms:List Nat,(tlL ms).all (fun l=>l.all C.flat)=true
 | []=>rfl
 | n :: ms=>Zp1 ms
theorem wrC {X:List C} (xl:X.length=16) {j:Nat} (hj:j<16) (c:C):Z4 16 [X] j [c]=some [X.set j c]:=by
 simp only[Z4]
 rw[Nat.div_eq_of_lt hj,Nat.mod_eq_of_lt hj,List.getElem?_cons_zero]
 simp only[]
 rw[Zei (by omega),cond_true]
 rfl
section
variable (Hh:Hearts K Tryz.prog)
include Hh
theorem Z3l {h:Go.Ev.H} {q a:Nat} {ms:List Nat} (hl:ms.length=44) (hp:h.get q=some (.row 1 (tlL ms) false)) (h2:a+4≤44):Zg K Tryz.prog 140 [.c (.slice q 0 44 1),.c (.int .i64 a),.c (.int .i64 4)] h (.tup [.c (.int .u32 ((Yi ms a:Nat):Int)),.c (.bool true)]) h:=by
 have e0:(a:Int)+0=(a:Int):=Int.add_zero _
 have e1:(a:Int)+1=((a+1:Nat):Int):=rfl
 have e2:(a:Int)+2=((a+2:Nat):Int):=rfl
 have e3:(a:Int)+3=((a+3:Nat):Int):=rfl
 have g:Yi ms a=atN ms a+256 * (atN ms (a+1)+256 * (atN ms (a+2)+256 * atN ms (a+3))):=rfl
 have r0:=rdT (ms:=ms) (i:=a) (by omega)
 have r1:=rdT (ms:=ms) (i:=a+1) (by omega)
 have r2:=rdT (ms:=ms) (i:=a+2) (by omega)
 have r3:=rdT (ms:=ms) (i:=a+3) (by omega)
 obtain⟨b0,k0⟩:∃ b,atN ms a=b:=⟨_,rfl⟩
 obtain⟨b1,k1⟩:∃ b,atN ms (a+1)=b:=⟨_,rfl⟩
 obtain⟨b2,k2⟩:∃ b,atN ms (a+2)=b:=⟨_,rfl⟩
 obtain⟨b3,k3⟩:∃ b,atN ms (a+3)=b:=⟨_,rfl⟩
 have l0:=Ew ms a
 have l1:=Ew ms (a+1)
 have l2:=Ew ms (a+2)
 have l3:=Ew ms (a+3)
 rw[g,k0,k1,k2,k3]
 rw[k0] at l0 r0
 rw[k1] at l1 r1
 rw[k2] at l2 r2
 rw[k3] at l3 r3
 have s0:Vd .u32 0 8=some (.int .u32 0):=rfl
 have o0:Gb .u32 Nat.lor 0 (b3:Int)=.int .u32 (b3:Int):=by
  have:=or8 (v:=0) (by omega) l3
  rwa [Nat.mul_zero,Nat.add_zero] at this
 have s1:=shl8 (v:=b3) (by omega)
 have o1:=or8 (v:=b3) (by omega) l2
 have s2:=shl8 (v:=b2+256 * b3) (by omega)
 have o2:=or8 (v:=b2+256 * b3) (by omega) l1
 have s3:=shl8 (v:=b1+256 * (b2+256 * b3)) (by omega)
 have o3:=or8 (v:=b1+256 * (b2+256 * b3)) (by omega) l0
 have tl:(tlL ms).length=44:=by rw[Zuy,hl]
 obtain⟨T,hT⟩:∃ T,tlL ms=T:=⟨_,rfl⟩
 rw[hT] at hp r0 r1 r2 r3 tl
 refine Zg.goes fits Hh (by kernel_rfl) (by kernel_rfl) (by kernel_rfl) (show Tryz.f140.body=some _ from rfl) rfl ?_
 repeat (first|apply Goes.seq|apply Goes.block|apply Goes.loop|apply Goes.skip|apply Goes.exit|apply Goes.ret|((first|apply Goes.Zo|apply Goes.ops2 fits Hh (Zj Zb (fun _ _ _ _=>Lm Hh))); · simp (maxSteps:=9^6) +decide (disch:=first|omega|(simp only[lens]<;>omega)|decide) only [go_sem,Zd,Za,simprocAttr,hp,e0,e1,e2,e3,s0,o0,s1,o1,s2,o2,s3,o3,r0,r1,r2,r3,Nat.zero_add,Zn,Yg]<;>rfl))
 simp (maxSteps:=9^6) +decide (disch:=first|omega|(simp only[lens]<;>omega)|decide) only [go_sem,Zd,Za,simprocAttr]<;>rfl
theorem Z1b {h:Go.Ev.H} {q a:Nat} {ms:List Nat} (hl:ms.length=44) (hp:h.get q=some (.row 1 (tlL ms) false)) (h2:a+4≤44):Zg K Tryz.prog 96 [.c (.slice q 0 44 1),.c (.int .i64 a)] h (.tup [.c (.int .u32 ((Yi ms a:Nat):Int)),.c (.bool true)]) h:=by
 have c1:=Z3l Hh hl hp h2
 refine Zg.goes fits Hh (by kernel_rfl) (by kernel_rfl) (by kernel_rfl) (show Tryz.f96.body=some _ from rfl) rfl ?_
 iterate 3 (first|apply Goes.seq|(apply Goes.ops2 fits Hh Zb; · simp (maxSteps:=9^6) +decide (disch:=first|omega|(simp only[lens]<;>omega)|decide) only [go_sem,Zd,Za,simprocAttr]<;>rfl))
 iterate 2 (first|apply Goes.ret|(apply Goes.ops2 fits Hh (Zt Zb c1); · simp (maxSteps:=9^6) +decide (disch:=first|omega|(simp only[lens]<;>omega)|decide) only [go_sem,Zd,Za,simprocAttr,Zw]<;>rfl))
 simp (maxSteps:=9^6) +decide (disch:=first|omega|(simp only[lens]<;>omega)|decide) only [go_sem,Zd,Za,simprocAttr]<;>rfl
theorem Z18 (h:Go.Ev.H) (q:Nat):Zg K Tryz.prog 96 [.c (.slice q 0 44 1),.c (.int .i64 44)] h (.tup [.c (.int .u32 0),.c (.bool false)]) h:=by
 have cw:Zg K Tryz.prog 180 [.c (.int .i64 44),.c (.int .i64 44),.c (.int .i64 4)] h (.w (.c (.bool false))) h:=by
  refine Zg.goes fits Hh (by kernel_rfl) (by kernel_rfl) (by kernel_rfl) (show Tryz.f180.body=some _ from rfl) rfl ?_
  repeat (first|apply Goes.seq|apply Goes.block|apply Goes.loop|apply Goes.skip|apply Goes.exit|apply Goes.ret|((first|apply Goes.Zo|apply Goes.ops2 fits Hh Zb); · simp (maxSteps:=9^6) +decide (disch:=first|omega|(simp only[lens]<;>omega)|decide) only [go_sem,Zd,Za,simprocAttr]<;>rfl))
  simp (maxSteps:=9^6) +decide (disch:=first|omega|(simp only[lens]<;>omega)|decide) only [go_sem,Zd,Za,simprocAttr]<;>rfl
 have c1:Zg K Tryz.prog 140 [.c (.slice q 0 44 1),.c (.int .i64 44),.c (.int .i64 4)] h (.tup [.c (.int .u32 0),.c (.bool false)]) h:=by
  refine Zg.goes fits Hh (by kernel_rfl) (by kernel_rfl) (by kernel_rfl) (show Tryz.f140.body=some _ from rfl) rfl ?_
  iterate 4 (first|apply Goes.seq|(apply Goes.ops2 fits Hh Zb; · simp (maxSteps:=9^6) +decide (disch:=first|omega|(simp only[lens]<;>omega)|decide) only [go_sem,Zd,Za,simprocAttr,Zn,Yg]<;>rfl))
  iterate 5 (first|apply Goes.seq|apply Goes.ret|((first|apply Goes.Zo|apply Goes.ops2 fits Hh (Zt Zb cw)); · simp (maxSteps:=9^6) +decide (disch:=first|omega|(simp only[lens]<;>omega)|decide) only [go_sem,Zd,Za,simprocAttr,Zw,Zn,Yg]<;>rfl))
  simp (maxSteps:=9^6) +decide (disch:=first|omega|(simp only[lens]<;>omega)|decide) only [go_sem,Zd,Za,simprocAttr,Zn,Yg]<;>rfl
 refine Zg.goes fits Hh (by kernel_rfl) (by kernel_rfl) (by kernel_rfl) (show Tryz.f96.body=some _ from rfl) rfl ?_
 iterate 3 (first|apply Goes.seq|(apply Goes.ops2 fits Hh Zb; · simp (maxSteps:=9^6) +decide (disch:=first|omega|(simp only[lens]<;>omega)|decide) only [go_sem,Zd,Za,simprocAttr]<;>rfl))
 iterate 2 (first|apply Goes.ret|(apply Goes.ops2 fits Hh (Zt Zb c1); · simp (maxSteps:=9^6) +decide (disch:=first|omega|(simp only[lens]<;>omega)|decide) only [go_sem,Zd,Za,simprocAttr,Zw]<;>rfl))
 simp (maxSteps:=9^6) +decide (disch:=first|omega|(simp only[lens]<;>omega)|decide) only [go_sem,Zd,Za,simprocAttr]<;>rfl
theorem Zwu {h:Go.Ev.H} {p off:Nat} {ns:List Nat} (hl:ns.length=256) (hp:h.get p=some (.row 256 [pgL ns] false)) (h1:off+44≤256):Zg K Tryz.prog 141 [.c (.slice p off 44 1)] h (.w (.c (.slice h.next 0 44 1))) (h.new (.row 1 (tlL ((ns.drop off).take 44)) false)):=by
 have rm:=Zyi hl h1 (by omega)
 have tl:(tlL ((ns.drop off).take 44)).length=44:=by rw[Zuy,List.length_take,List.length_drop]; omega
 have tf:=Zp1 ((ns.drop off).take 44)
 obtain⟨T,hT⟩:∃ T,tlL ((ns.drop off).take 44)=T:=⟨_,rfl⟩
 rw[hT] at rm tl tf ⊢
 refine Zg.tidy ⟨Tryz.f141,Tryz.func141,by kernel_rfl,by decide⟩ fun tidy=>?_
 have l1:=tidy _ _ hp
 obtain⟨v,h',cc,n',rfl,n1,n2,n3,hk⟩:∃ v h',Zg K Tryz.prog 141 [.c (.slice p off 44 1)] h v h'∧∃ n',v=.w (.c (.slice n' 0 44 1))∧h.next≤n'∧n'<h'.next∧h'.get n'=some (.row 1 T false)∧∀ m,m<h.next→h'.get m=h.get m:=by
  rcases T with _|⟨x0,T⟩
  ·simp only[List.length_nil] at tl; omega
  ·
   refine Zg.Yb fits Hh (by kernel_rfl) (by kernel_rfl) (by kernel_rfl) (show Tryz.f141.body=some _ from rfl) rfl ?_
   repeat (first|apply Goes.seq|apply Goes.block|apply Goes.loop|apply Goes.skip|apply Goes.exit|apply Goes.ret|((first|apply Goes.Zo|apply Goes.ops2 fits Hh Zb); · simp (maxSteps:=9^6) +decide (disch:=first|omega|(simp only[lens]<;>omega)|decide) only [go_sem,Zd,Za,simprocAttr,hp,rm,tl,List.length_append,Nat.zero_add,Zn,Jj,Y2,Ud,Te,Le,Tn,Xr,Yy,Fg,Jp,List.replicate_succ,List.replicate_zero,Nat.zero_mul]<;>rfl))
   exact⟨_,_,(by simp (maxSteps:=9^6) +decide (disch:=first|omega|(simp only[lens]<;>omega)|decide) only [go_sem,Zd,Za,simprocAttr]<;>rfl),_,rfl,(by first|omega|(simp only[H.Zc,H.Zi]<;>omega)),(by first|omega|(simp only[H.Zc,H.Zi]<;>omega)),(by rw[Ju (by rw[H.Zi,H.Zc]; omega)]),fun m hm=>by (first|(simp (discharger:=omega) only [H.get_put,H.Zf,H.Zk,H.Zc,H.Zh,H.Zi,if_neg]; done)|(simp only[H.get_put,H.Zf,H.Zk,H.Zc,H.Zh,H.Zi]; (repeat' split)<;>first|rfl|(exfalso; omega)|omega))⟩
 exact Zg.row1 cc n1 n3 tf n2 hk
theorem Z0j {h:Go.Ev.H} {p off:Nat} {ns:List Nat} (hl:ns.length=256) (hp:h.get p=some (.row 256 [pgL ns] false)) (h1:off+44≤256):Zg K Tryz.prog 97 [.c (.slice p off 44 1)] h (.w (.c (.fn 142 [] [some (h.next+1,0)]))) (((h.new (.row 1 (tlL ((ns.drop off).take 44)) false)).new (.row 1 [[.snil]] false)).put (h.next+1) (.row 1 [[.slice h.next 0 44 1]] false)):=by
 have c1:=Zwu Hh hl hp h1
 obtain⟨T,hT⟩:∃ T,tlL ((ns.drop off).take 44)=T:=⟨_,rfl⟩
 rw[hT] at c1 ⊢
 refine Zg.goes fits Hh (by kernel_rfl) (by kernel_rfl) (by kernel_rfl) (show Tryz.f97.body=some _ from rfl) rfl ?_
 iterate 3 (first|apply Goes.seq|(apply Goes.ops2 fits Hh Zb; · simp (maxSteps:=9^6) +decide (disch:=first|omega|(simp only[lens]<;>omega)|decide) only [go_sem,Zd,Za,simprocAttr,Z6,Z4]<;>rfl))
 iterate 4 (first|apply Goes.seq|apply Goes.ret|(apply Goes.ops2 fits Hh (Zt Zb c1); · simp (maxSteps:=9^6) +decide (disch:=first|omega|(simp only[lens]<;>omega)|decide) only [go_sem,Zd,Za,simprocAttr,Zw,Z6,Z4]<;>rfl))
 simp (maxSteps:=9^6) +decide (disch:=first|omega|(simp only[lens]<;>omega)|decide) only [go_sem,Zd,Za,simprocAttr,Z6,Z4]<;>rfl
section
variable {l px pb q d:Nat} {lts:Zy} {ms:List Nat}
noncomputable def E9 (lts:Zy) (st:LoopState) (d:Nat):O:=.loop lts 80 [62,63] (q46 [1,1,1,1,1,1,1,1,1,1,0,1,2,5]) (q46 [1,1,1,1,1,1,1,1,1,1,0,1,2,6]) st none d
theorem gtA (l:Nat) (ts:Zy) (h:Go.Ev.H) {t w:C} (e1:Zm ts 62=.w (.c t)) (e2:Zm ts 63=.w (.c w)):Goes K Tryz.prog 80 (some l) (q46 [1,1,1,1,1,1,1,1,1,1,0,1,2,5]) [] ts h fun x ds' ts' h'=>x=.normal∧ds'=[]∧h'=h∧(∀ s,s≤11→Zm ts' s=Zm ts s)∧Zm ts' 12=Zm ts 62∧Zm ts' 13=Zm ts 63:=by
 iterate 3 (first|apply Goes.seq|(apply Goes.ops2 fits Hh Zb; · simp (maxSteps:=9^6) +decide (disch:=first|omega|(simp only[lens]<;>omega)|decide) only [go_sem,Zd,Za,simprocAttr,e1,e2]<;>rfl))
 refine⟨rfl,rfl,rfl,fun s hs=>?_,?_,?_⟩
 ·simp (decide:=true) only [Yk hs]
 ·rw[e1]; simp (maxSteps:=9^6) +decide (disch:=first|omega|(simp only[lens]<;>omega)|decide) only [go_sem,Zd,Za,simprocAttr]
 ·rw[e2]; simp (maxSteps:=9^6) +decide (disch:=first|omega|(simp only[lens]<;>omega)|decide) only [go_sem,Zd,Za,simprocAttr]
theorem gtB (l:Nat) {ts:Zy} {h:Go.Ev.H} {i v:Nat} {X:List C} (ii:i<11) (e7:Zm ts 7=.w (.c (.ptr px 0))) (e12:Zm ts 12=.w (.c (.int .i64 ((4 * i:Nat):Int)))) (e13:Zm ts 13=.w (.c (.int .u32 (v:Int)))) (hx:h.get px=some (.row 16 [X] false)) (xl:X.length=16) :
  Goes K Tryz.prog 80 (some l) (q46 [1,1,1,1,1,1,1,1,1,1,0,1,2,6]) [] ts h fun x _ _ h'=>x=.normal∧h'=h.put px (.row 16 [X.set (4+i) (.int .u32 (v:Int))] false):=by
 have q4:Fe .i64 ((4 * i:Nat):Int) 4=some (.int .i64 (i:Int)):=by
  rw[show (4:Int)=((4:Nat):Int) from rfl,Ej (by omega) (by omega),Nat.mul_div_cancel_left _ (by omega)]
 have wc:=wrC xl (j:=4+i) (by omega) (.int .u32 (v:Int))
 iterate 2 (first|apply Goes.block|(apply Goes.ops2 fits Hh Zb; · simp (maxSteps:=9^6) +decide (disch:=first|omega|(simp only[lens]<;>omega)|decide) only [go_sem,Zd,Za,simprocAttr,e7,e12,e13,hx,q4,wc]<;>rfl))
 exact⟨rfl,rfl⟩
theorem Zry (l px:Nat):∃ E,Sound K Tryz.prog E∧∀ (lts:Zy) (d i v:Nat) (X:List C) (h:Go.Ev.H),l≠px→Zm lts 7=.w (.c (.ptr px 0))→i<11→h.get l=some (E9 lts .ready d)→h.get px=some (.row 16 [X] false)→X.length=16 →
  U3 E l (some [.c (.int .i64 ((4 * i:Nat):Int)),.c (.int .u32 (v:Int))]) h (some (E9 lts .ready d))=some (.val (.w (.c (.bool true))) (((h.put l (E9 lts .busy d)).put px (.row 16 [X.set (4+i) (.int .u32 (v:Int))] false)).put l (E9 lts .ready d))):=by
 have ne:(q46 [1,1,1,1,1,1,1,1,1,1,0,1,2,5])≠(q46 [1,1,1,1,1,1,1,1,1,1,0,1,2,6]):=fun e=>by
  rw[Wz,Wm] at e
  cases e
 obtain⟨E,S,g⟩:=rounds (K:=K) (P:=Tryz.prog) (n:=80) (l:=l) ne
  (PA:=fun ts _=>∃ t w,Zm ts 62=.w (.c t)∧Zm ts 63=.w (.c w))
  (QA:=fun ts ts'=>(∀ s,s≤11→Zm ts' s=Zm ts s)∧Zm ts' 12=Zm ts 62∧Zm ts' 13=Zm ts 63)
  (PB:=fun ts h=>∃ (i v:Nat) (X:List C),i<11∧Zm ts 7=.w (.c (.ptr px 0))∧Zm ts 12=.w (.c (.int .i64 ((4 * i:Nat):Int)))∧Zm ts 13=.w (.c (.int .u32 (v:Int)))∧h.get px=some (.row 16 [X] false)∧X.length=16)
  (QB:=fun ts h h'=>∀ (i v:Nat) (X:List C),Zm ts 12=.w (.c (.int .i64 ((4 * i:Nat):Int)))→Zm ts 13=.w (.c (.int .u32 (v:Int)))→h.get px=some (.row 16 [X] false)→h'=h.put px (.row 16 [X.set (4+i) (.int .u32 (v:Int))] false))
  (fun ts h ⟨t,w,e1,e2⟩=>gtA Hh l ts h e1 e2)
  (fun ts h ⟨i,v,X,ii,e7,e12,e13,hx,xl⟩=>(gtB Hh l ii e7 e12 e13 hx xl).mono fun x _ _ h' ⟨x1,x2⟩=>⟨x1,fun i' v' X' f1 f2 f3=>by
   rw[e12] at f1
   rw[e13] at f2
   rw[hx] at f3
   cases f3
   have a1:((4 * i:Nat):Int)=((4 * i':Nat):Int):=by injection f1 with f1; injection f1 with f1; injection f1
   have a2:(v:Int)=(v':Int):=by injection f2 with f2; injection f2 with f2; injection f2
   obtain rfl:i=i':=by omega
   obtain rfl:v=v':=by omega
   exact x2⟩)
 refine⟨E,S,fun lts d i v X h nl e7 ii hl hx xl=>?_⟩
 have z1:Zm ((lts.set 62 (.w (.c (.int .i64 ((4 * i:Nat):Int))))).set 63 (.w (.c (.int .u32 (v:Int))))) 62=.w (.c (.int .i64 ((4 * i:Nat):Int))):=by simp (decide:=true) only [Ze,reduceIte]
 have z2:Zm ((lts.set 62 (.w (.c (.int .i64 ((4 * i:Nat):Int))))).set 63 (.w (.c (.int .u32 (v:Int))))) 63=.w (.c (.int .u32 (v:Int))):=by simp (decide:=true) only [Ze,reduceIte]
 have z7:Zm ((lts.set 62 (.w (.c (.int .i64 ((4 * i:Nat):Int))))).set 63 (.w (.c (.int .u32 (v:Int))))) 7=.w (.c (.ptr px 0)):=by simp (decide:=true) only [Ze,reduceIte,e7]
 have hx':(h.put l (E9 lts .busy d)).get px=some (.row 16 [X] false):=by rw[Zu (Ne.symm nl)]; exact hx
 obtain⟨ts',h',⟨a1,a2,a3⟩,b,r⟩:=g [.c (.int .i64 ((4 * i:Nat):Int)),.c (.int .u32 (v:Int))] h lts _ [62,63] d hl rfl ⟨_,_,z1,z2⟩ fun ts' ⟨a1,a2,a3⟩=>⟨i,v,X,ii,(a1 7 (by decide)).trans z7,a2.trans z1,a3.trans z2,hx',xl⟩
 have b:=b i v X (a2.trans z1) (a3.trans z2) hx'
 subst b
 exact r (by rw[Zu nl]; exact Yh ..)
theorem Zqp {E:Task→Option Out} (S:Sound K Tryz.prog E) (e7:Zm lts 7=.w (.c (.ptr px 0))) (nl:l≠px)
  (rnd:∀ (i v:Nat) (X:List C) (h:Go.Ev.H),i<11→h.get l=some (E9 lts .ready d)→h.get px=some (.row 16 [X] false)→X.length=16→U3 E l (some [.c (.int .i64 ((4 * i:Nat):Int)),.c (.int .u32 (v:Int))]) h (some (E9 lts .ready d))=some (.val (.w (.c (.bool true))) (((h.put l (E9 lts .busy d)).put px (.row 16 [X.set (4+i) (.int .u32 (v:Int))] false)).put l (E9 lts .ready d))))
  (ml:ms.length=44) (nb:pb≠l∧pb≠px) (nq:q≠l∧q≠px):∀ (m i:Nat) (X:List C) (ts:Zy) (h:Go.Ev.H),i+m=11→h.get l=some (E9 lts .ready d)→h.get px=some (.row 16 [X] false)→X.length=16→h.get pb=some (.row 1 [[.slice q 0 44 1]] false)→h.get q=some (.row 1 (tlL ms) false) →
  Zm ts 0=.w (.c (.yield l))→Zm ts 1=.w (.c (.ptr pb 0))→Zm ts 3=.w (.c (.int .i64 ((4 * i:Nat):Int))) →
  Goes K Tryz.prog 25 none (q142 [1,1,2]) [] ts h fun x ds' _ h'=>x=.ret∧ds'=[]∧h'.next=h.next∧h'.get l=some (E9 lts .ready d)∧h'.get px=some (.row 16 [Zl8 X (4+i) (Mt ms (4 * i) m)] false)∧∀ k,k≠l→k≠px→h'.get k=h.get k:=by
 intro m
 induction m with
 | zero =>
  intro i X ts h hi hl hx xl hb hq e0 e1 e3
  obtain rfl:i=11:=by omega
  have c1:=Z18 Hh h q
  iterate 4 (first|apply Goes.seq|apply Goes.block|apply Goes.loop)
  iterate 5 (first|apply Goes.seq|apply Goes.ret|((first|apply Goes.Zo|apply Goes.ops2 fits Hh (Zt Zb c1)); · simp (maxSteps:=9^6) +decide (disch:=first|omega|(simp only[lens]<;>omega)|decide) only [go_sem,Zd,Za,simprocAttr,Zw,e0,e1,e3,hb,read1]<;>rfl))
  exact⟨rfl,rfl,rfl,hl,hx,fun _ _ _=>rfl⟩
 | succ m ih =>
  intro i X ts h hi hl hx xl hb hq e0 e1 e3
  have c1:=Z1b Hh ml hq (a:=4 * i) (by omega)
  have gW:Mt ms (4 * i) (m+1)=Yi ms (4 * i) :: Mt ms (4 * (i+1)) m:=rfl
  rw[gW]
  obtain⟨v,hv⟩:∃ v,Yi ms (4 * i)=v:=⟨_,rfl⟩
  rw[hv] at c1 ⊢
  have r:=rnd i v X h (by omega) hl hx xl
  obtain⟨h2,eh⟩:∃ h2,((h.put l (E9 lts .busy d)).put px (.row 16 [X.set (4+i) (.int .u32 (v:Int))] false)).put l (E9 lts .ready d)=h2:=⟨_,rfl⟩
  rw[eh] at r
  have n2:h2.next=h.next:=by rw[←eh]; rfl
  have l2:h2.get l=some (E9 lts .ready d):=by rw[←eh,Yh]
  have x2:h2.get px=some (.row 16 [X.set (4+i) (.int .u32 (v:Int))] false):=by rw[←eh,Zu (Ne.symm nl),Yh]
  have k2:∀ k,k≠l→k≠px→h2.get k=h.get k:=fun k k1 k2=>by rw[←eh,Zu k1,Zu k2,Zu k1]
  clear eh
  have n4:((4 * i:Nat):Int)+4=((4 * (i+1):Nat):Int):=by omega
  iterate 4 (first|apply Goes.seq|apply Goes.block|apply Goes.loop)
  iterate 2 (first|apply Goes.seq|(apply Goes.ops2 fits Hh (Zt Zb c1); · simp (maxSteps:=9^6) +decide (disch:=first|omega|(simp only[lens]<;>omega)|decide) only [go_sem,Zd,Za,simprocAttr,Zw,e0,e1,e3,hb,hl,r,n4,read1]<;>rfl))
  iterate 4 (first|apply Goes.skip|((first|apply Goes.Zo|apply Goes.ops2 fits Hh S); · simp (maxSteps:=9^6) +decide (disch:=first|omega|(simp only[lens]<;>omega)|decide) only [go_sem,Zd,Za,simprocAttr,e0,e1,e3,hb,hl,r,n4,read1]<;>rfl))
  show Goes K Tryz.prog 25 none (q142 [1,1,2]) _ _ _ _
  refine (ih (i+1) _ _ h2 (by omega) l2 x2 (by rw[List.length_set]; exact xl) ((k2 _ nb.1 nb.2).trans hb) ((k2 _ nq.1 nq.2).trans hq) ?_ ?_ ?_).mono ?_
  ·simp (decide:=true) only [Ze,reduceIte,e0]
  ·simp (decide:=true) only [Ze,reduceIte,e1]
  ·simp (decide:=true) only [Ze,reduceIte]<;>rfl
  rintro x ds' ts2 h3 ⟨rfl,rfl,z1,z2,z3,z4⟩
  exact⟨rfl,rfl,z1.trans n2,z2,z3,fun k k1 k3=>(z4 k k1 k3).trans (k2 k k1 k3)⟩
theorem Zxe {h:Go.Ev.H} {X:List C} (e7:Zm lts 7=.w (.c (.ptr px 0))) (nl:l≠px) (ml:ms.length=44) (nb:pb≠l∧pb≠px) (nq:q≠l∧q≠px) (hl:h.get l=some (E9 lts .ready d)) (hx:h.get px=some (.row 16 [X] false)) (xl:X.length=16) (hb:h.get pb=some (.row 1 [[.slice q 0 44 1]] false)) (hq:h.get q=some (.row 1 (tlL ms) false)) :
  ∃ v h',Zg K Tryz.prog 142 [.c (.yield l),.c (.ptr pb 0)] h v h'∧h'.next=h.next∧h'.get l=some (E9 lts .ready d)∧h'.get px=some (.row 16 [Zl8 X 4 (Mt ms 0 11)] false)∧∀ k,k≠l→k≠px→h'.get k=h.get k:=by
 obtain⟨E,S,g⟩:=Zry Hh l px
 have rnd:=fun i v X h ii hl hx xl=>g lts d i v X h nl e7 ii hl hx xl
 refine Zg.Yb fits Hh (by kernel_rfl) (by kernel_rfl) (by kernel_rfl) (show Tryz.f142.body=some _ from rfl) rfl ?_
 iterate 8 (first|apply Goes.seq|apply Goes.skip|apply Goes.block|((first|apply Goes.Zo|apply Goes.ops2 fits Hh Zb); · simp (maxSteps:=9^6) +decide (disch:=first|omega|(simp only[lens]<;>omega)|decide) only [go_sem,Zd,Za,simprocAttr]<;>rfl))
 refine (Zqp Hh S e7 nl rnd ml nb nq 11 0 X _ h (by omega) hl hx xl hb hq ?_ ?_ ?_).mono ?_
 ·simp (decide:=true) only [Ze,reduceIte,Y8,List.getElem?_cons_zero]
 ·simp (decide:=true) only [Ze,reduceIte,Y8,List.getElem?_cons_succ,List.getElem?_cons_zero]
 ·simp (decide:=true) only [Ze,reduceIte]<;>rfl
 rintro x ds' ts2 h3 ⟨rfl,rfl,z1,z2,z3,z4⟩
 exact⟨_,_,(by simp (maxSteps:=9^6) +decide (disch:=first|omega|(simp only[lens]<;>omega)|decide) only [go_sem,Zd,Za,simprocAttr]<;>rfl),z1,z2,z3,z4⟩
theorem getLoop {ts:Zy} {h:Go.Ev.H} {X:List C} (e7:Zm ts 7=.w (.c (.ptr px 0))) (e61:Zm ts 61=.w (.c (.fn 142 [] [some (pb,0)]))) (ml:ms.length=44) (hx:h.get px=some (.row 16 [X] false)) (xl:X.length=16) (hb:h.get pb=some (.row 1 [[.slice q 0 44 1]] false)) (hq:h.get q=some (.row 1 (tlL ms) false)) (lx:px<h.next) (lb:pb<h.next) (lq:q<h.next) (nb:pb≠px) (nq:q≠px) :
  Goes K Tryz.prog 80 none (q46 [1,1,1,1,1,1,1,1,1,1,0,1,2]) [] ts h fun x ds' ts' h'=>x=.normal∧ts'=ts∧ds'=[h.next]∧h'.next=h.next+1+1∧h'.get h.next=some .defers∧h'.get px=some (.row 16 [Zl8 X 4 (Mt ms 0 11)] false)∧∀ m,m<h.next→m≠px→h'.get m=h.get m:=by
 have g0:∀ (o:O) m,m<h.next→((h.new .defers).new o).get m=h.get m:=fun o m hm=>by rw[Ye (by rw[H.Zc]; omega),Ye (by omega)]
 have gd:∀ o:O,((h.new .defers).new o).get h.next=some .defers:=fun o=>by rw[Ye (by rw[H.Zc]; omega),O3]
 rw[W9]
 refine Goes.Zjd fits Hh (f:=142) (first:=[]) (caps:=[some (pb,0)]) (by simp only[Zx,Z0,e61,asC]) (exE (Zxe Hh (l:=h.next+1) (px:=px) (pb:=pb) (q:=q) (d:=h.next) (lts:=ts) (ms:=ms) (X:=X) e7 (by omega) ml ⟨by omega,nb⟩ ⟨by omega,nq⟩ (by rw[Ju (by simp only[H.Zc]<;>omega)]; rfl) (by rw[g0 _ _ lx]; exact hx) xl (by rw[g0 _ _ lb]; exact hb) (by rw[g0 _ _ lq]; exact hq)) ?_)
 rintro v h3 ⟨w0,w1,w2,w3⟩
 refine⟨_,_,_,_,_,_,_,_,w1,by simp,?_⟩
 show _∧_∧_
 refine⟨rfl,rfl,rfl,?_,?_,?_,fun m hm hne=>?_⟩
 ·rw[H.Zh,w0]; rfl
 ·rw[Zu (by omega),w3 _ (by omega) (by omega),gd]
 ·rw[Zu (by omega),w2]
 ·rw[Zu (by omega),w3 _ (by omega) hne,g0 _ _ hm]
end
end
end Go.Proofs.YtdkcjalmhdofcaaGreatDoor
set_option maxRecDepth 100000
set_option maxHeartbeats 4000000
namespace Go.Proofs.YtdkcjalmhdofcaaGreatDoor
open Go.Ev
section
variable (Hh:Hearts K Tryz.prog)
include Hh
theorem Zy0 {ns:List Nat} {p:Nat} (nl:ns.length=256) (pc:p=0∨p=64∨p=128∨p=192) (h:Go.Ev.H):Zg K Tryz.prog 46 [.g (pgL ns),.c (.int .i64 (p:Int))] h (.tup [.g (Mr ns p).1,.c (.int .i64 (Mr ns p).2)]) h:=by
 have pl:p+64≤256:=by omega
 have pd:decide ((p:Int)=0∨(p:Int)=64∨(p:Int)=128∨(p:Int)=192)=true:=decide_eq_true (by omega)
 have p1:(p:Int)+64=((p+64:Nat):Int):=rfl
 have xl:(pgL ns).length=256:=by rw[Ob,nl]
 have r1:read1 256 [pgL ns] (p+1)=some (.int .u8 ((atN ns (p+1):Nat):Int)):=Zr8 ⟨by omega,by omega⟩
 have r0:read1 256 [pgL ns] p=some (.int .u8 ((atN ns p:Nat):Int)):=Zr8 ⟨by omega,by omega⟩
 by_cases b0:atN ns (p+1)=0
 ·rw[b0] at r1
  cases zz:Gu ns (p+60) 4 with
  | false =>
   have dd:Mr ns p=(ino0,70):=by unfold Mr; rw[b0,zz]; rfl
   rw[dd]
   obtain⟨v,h',cc,rfl,hk⟩:∃ v h',Zg K Tryz.prog 46 [.g (pgL ns),.c (.int .i64 (p:Int))] h v h'∧v=.tup [.g ino0,.c (.int .i64 70)]∧∀ m,m<h.next→h'.get m=h.get m:=by
    refine Zg.Yb fits Hh (by kernel_rfl) (by kernel_rfl) (by kernel_rfl) (show Tryz.f46.body=some _ from rfl) rfl ?_
    iterate 16 (first|apply Goes.seq|apply Goes.skip|apply Goes.ret|((first|apply Goes.Zo|apply Goes.ops2 fits Hh (Zj (Zj Zb (fun _ _ _ _=>Ma Hh)) (fun _ _ _ _=>Zcz Hh))); · simp (maxSteps:=9^6) +decide (disch:=first|omega|(simp only[lens]<;>omega)|decide) only [go_sem,Zd,Za,simprocAttr,pd,p1,xl,r1,zz,Z6,U5,Da,bound,Dy,reaches,Nat.add_zero,Nat.zero_add,Nat.mul_one,Nat.add_sub_cancel_left]<;>rfl))
    refine⟨_,_,(by simp (maxSteps:=9^6) +decide (disch:=first|omega|(simp only[lens]<;>omega)|decide) only [go_sem,Zd,Za,simprocAttr,read1]<;>rfl),rfl,fun m hm=>by (first|(simp (discharger:=omega) only [H.get_put,H.Zf,H.Zk,H.Zc,H.Zh,H.Zi,if_neg]; done)|(simp only[H.get_put,H.Zf,H.Zk,H.Zc,H.Zh,H.Zi]; (repeat' split)<;>first|rfl|(exfalso; omega)|omega))⟩
   exact cc.quiet rfl hk
  | true =>
   have dd:Mr ns p=bif Zf6 ns p then (Ziw ns p,0) else (ino0,70):=by
    unfold Mr
    rw[b0,zz]
    rfl
   rw[dd]
   have hi:=fun h=>Zjh Hh (atN ns p:Int) (J4 ns (p+2):Int) (Yi ns (p+4):Int) (Yi ns (p+8):Int) (Yi ns (p+12):Int) (Yi ns (p+16):Int) (Yi ns (p+20):Int) (Yi ns (p+24):Int) (Yi ns (p+28):Int) (Yi ns (p+32):Int) (Yi ns (p+36):Int) (Yi ns (p+40):Int) (Yi ns (p+44):Int) (Yi ns (p+48):Int) (Yi ns (p+52):Int) (Yi ns (p+56):Int) h
   change ∀ h,Zg K Tryz.prog 91 [.g (Ziw ns p)] h (.w (.c (.bool (Zf6 ns p)))) h at hi
   have gw:Mt ((ns.drop (p+12)).take 44) 0 11=[Yi ns (p+12),Yi ns (p+16),Yi ns (p+20),Yi ns (p+24),Yi ns (p+28),Yi ns (p+32),Yi ns (p+36),Yi ns (p+40),Yi ns (p+44),Yi ns (p+48),Yi ns (p+52)]:=by
    rw[Zme (by omega)]
    simp only[Mt,Nat.add_assoc,Nat.reduceAdd,Nat.add_zero]
   have g2:=Zi2 ns (p+2)
   have g4:=Zpf ns (p+4)
   have g8:=Zpf ns (p+8)
   have ml:((ns.drop (p+12)).take 44).length=44:=by rw[List.length_take,List.length_drop]; omega
   obtain⟨l2,e2⟩:∃ x,J4 ns (p+2)=x:=⟨_,rfl⟩
   obtain⟨l4,e4⟩:∃ x,Yi ns (p+4)=x:=⟨_,rfl⟩
   obtain⟨l8,e8⟩:∃ x,Yi ns (p+8)=x:=⟨_,rfl⟩
   obtain⟨kk,ek⟩:∃ x,atN ns p=x:=⟨_,rfl⟩
   obtain⟨nx,en⟩:∃ x,Yi ns (p+56)=x:=⟨_,rfl⟩
   have hC:((Zl8 [.int .u8 kk,.int .i64 l2,.int .u32 l4,.int .i64 l8,.int .u32 0,.int .u32 0,.int .u32 0,.int .u32 0,.int .u32 0,.int .u32 0,.int .u32 0,.int .u32 0,.int .u32 0,.int .u32 0,.int .u32 0,.int .u32 0] 4 (Mt ((ns.drop (p+12)).take 44) 0 11)).set 15 (.int .u32 nx))=Ziw ns p:=by
    rw[gw]
    unfold Ziw
    rw[e2,e4,e8,ek,en]
    rfl
   have Yl:=Zl9 (Mt ((ns.drop (p+12)).take 44) 0 11) [.int .u8 kk,.int .i64 l2,.int .u32 l4,.int .i64 l8,.int .u32 0,.int .u32 0,.int .u32 0,.int .u32 0,.int .u32 0,.int .u32 0,.int .u32 0,.int .u32 0,.int .u32 0,.int .u32 0,.int .u32 0,.int .u32 0] 4
   have dl:(Ziw ns p).length=16:=rfl
   rw[e2] at g2
   rw[e4] at g4
   rw[e8] at g8
   rw[ek] at r0
   obtain⟨D,eD⟩:∃ D,Ziw ns p=D:=⟨_,rfl⟩
   have df:D.all C.flat=true:=by rw[←eD]; rfl
   obtain⟨v,h',cc,ev,hk⟩:∃ v h',Zg K Tryz.prog 46 [.g (pgL ns),.c (.int .i64 (p:Int))] h v h'∧v=.tup [.g (bif Zf6 ns p then (D,(0:Int)) else (ino0,70)).1,.c (.int .i64 (bif Zf6 ns p then (D,(0:Int)) else (ino0,70)).2)]∧∀ m,m<h.next→h'.get m=h.get m:=by
    rw[eD] at hi hC dl
    refine Zg.Yb fits Hh (by kernel_rfl) (by kernel_rfl) (by kernel_rfl) (show Tryz.f46.body=some _ from rfl) rfl ?_
    iterate 28 (first|apply Goes.seq|apply Goes.skip|((first|apply Goes.Zo|apply Goes.ops2 fits Hh (Zj (Zj (Zj (Zj Zb (fun _ _ _ _=>Ma Hh)) (fun _ _ _ _=>Zcz Hh)) (fun _ _ _ _=>Zgs Hh)) (fun _ _ _ _=>Xi Hh))); · simp (maxSteps:=9^6) +decide (disch:=first|omega|(simp only[lens]<;>omega)|decide) only [go_sem,Zd,Za,simprocAttr,pd,p1,xl,r1,r0,zz,e2,e4,e8,Z6,Z4,U5,Da,bound,Dy,reaches,Nat.add_zero,Nat.zero_add,Nat.mul_one,Nat.add_sub_cancel_left]<;>rfl))
    refine Goes.abs fun hA eA=>?_
    have nA:hA.next=h.next+1+1+1:=by rw[eA]; simp only[H.Zh,H.Zc]
    have kA:∀ m,m<h.next→hA.get m=h.get m:=fun m hm=>by rw[eA]; (first|(simp (discharger:=omega) only [H.get_put,H.Zf,H.Zk,H.Zc,H.Zh,H.Zi,if_neg]; done)|(simp only[H.get_put,H.Zf,H.Zk,H.Zc,H.Zh,H.Zi]; (repeat' split)<;>first|rfl|(exfalso; omega)|omega))
    have bA:hA.get h.next=some (.row 256 [pgL ns] false):=by rw[eA]; simp (maxSteps:=9^6) +decide (disch:=first|omega|(simp only[lens]<;>omega)|decide) only [go_sem,Zd,Za,simprocAttr,xl]<;>rfl
    have cA:hA.get (h.next+1)=some (.row 16 [ino0] false):=by rw[eA]; simp (maxSteps:=9^6) +decide (disch:=first|omega|(simp only[lens]<;>omega)|decide) only [go_sem,Zd,Za,simprocAttr]<;>rfl
    have xA:hA.get (h.next+1+1)=some (.row 16 [[.int .u8 kk,.int .i64 l2,.int .u32 l4,.int .i64 l8,.int .u32 0,.int .u32 0,.int .u32 0,.int .u32 0,.int .u32 0,.int .u32 0,.int .u32 0,.int .u32 0,.int .u32 0,.int .u32 0,.int .u32 0,.int .u32 0]] false):=by rw[eA]; simp (maxSteps:=9^6) +decide (disch:=first|omega|(simp only[lens]<;>omega)|decide) only [go_sem,Zd,Za,simprocAttr,Z4]<;>rfl
    clear eA
    have c12:=Z0j Hh nl bA (off:=p+12) (by omega)
    iterate 2 (first|apply Goes.block|(apply Goes.ops2 fits Hh (Zt Zb c12); · simp (maxSteps:=9^6) +decide (disch:=first|omega|(simp only[lens]<;>omega)|decide) only [go_sem,Zd,Za,simprocAttr,Zw,pd,p1,xl,r1,r0,zz,e2,e4,e8,nA,bA,Z6,Z4,U5,Da,bound,Dy,reaches,Nat.add_zero,Nat.zero_add,Nat.mul_one,Nat.add_sub_cancel_left]<;>rfl))
    refine Goes.abs fun hB eB=>?_
    have nB:hB.next=h.next+1+1+1+1+1:=by rw[eB]; simp only[H.Zh,H.Zc,nA]
    have kB:∀ m,m<hA.next→hB.get m=hA.get m:=fun m hm=>by rw[eB]; (first|(simp (discharger:=omega) only [H.get_put,H.Zf,H.Zk,H.Zc,H.Zh,H.Zi,if_neg]; done)|(simp only[H.get_put,H.Zf,H.Zk,H.Zc,H.Zh,H.Zi]; (repeat' split)<;>first|rfl|(exfalso; omega)|omega))
    have qB:hB.get (h.next+1+1+1)=some (.row 1 (tlL ((ns.drop (p+12)).take 44)) false):=by rw[eB]; simp (maxSteps:=9^6) +decide (disch:=first|omega|(simp only[lens]<;>omega)|decide) only [go_sem,Zd,Za,simprocAttr,nA]<;>rfl
    have pB:hB.get (h.next+1+1+1+1)=some (.row 1 [[.slice (h.next+1+1+1) 0 44 1]] false):=by rw[eB]; simp (maxSteps:=9^6) +decide (disch:=first|omega|(simp only[lens]<;>omega)|decide) only [go_sem,Zd,Za,simprocAttr,nA]<;>rfl
    clear eB
    refine (getLoop Hh (h:=hB) (px:=h.next+1+1) (pb:=h.next+1+1+1+1) (q:=h.next+1+1+1) ?_ ?_ ml ((kB _ (by omega)).trans xA) rfl pB qB (by omega) (by omega) (by omega) (by omega) (by omega)).mono ?_
    ·simp (decide:=true) only [Ze,reduceIte,nA]
    ·simp (decide:=true) only [Ze,reduceIte,nA]
    rintro x ds' ts' hD ⟨rfl,rfl,rfl,nD,gd,xD,kD⟩
    rw[nB] at gd nD
    have bD:hD.get h.next=some (.row 256 [pgL ns] false):=(kD _ (by omega) (by omega)).trans ((kB _ (by omega)).trans bA)
    have cD:hD.get (h.next+1)=some (.row 16 [ino0] false):=(kD _ (by omega) (by omega)).trans ((kB _ (by omega)).trans cA)
    have kE:∀ m,m<h.next→hD.get m=h.get m:=fun m hm=>(kD _ (by omega) (by omega)).trans ((kB _ (by omega)).trans (kA m hm))
    obtain⟨Y,eY⟩:∃ Y,Zl8 [.int .u8 kk,.int .i64 l2,.int .u32 l4,.int .i64 l8,.int .u32 0,.int .u32 0,.int .u32 0,.int .u32 0,.int .u32 0,.int .u32 0,.int .u32 0,.int .u32 0,.int .u32 0,.int .u32 0,.int .u32 0,.int .u32 0] 4 (Mt ((ns.drop (p+12)).take 44) 0 11)=Y:=⟨_,rfl⟩
    rw[eY] at xD hC Yl
    have w15:=wrC Yl (j:=15) (by omega) (.int .u32 nx)
    rw[hC] at w15
    cases mM:Zf6 ns p with
    | false =>
     rw[mM] at hi
     iterate 4 (first|apply Goes.seq|(apply Goes.ops2 fits Hh (Zj Zb (fun _ _ _ _=>Xi Hh)); · simp (maxSteps:=9^6) +decide (disch:=first|omega|(simp only[lens]<;>omega)|decide) only [go_sem,Za,simprocAttr,nB,nD,gd,xD,bD,cD,en,w15,dl]<;>rfl))
     iterate 5 (first|apply Goes.seq|apply Goes.ret|((first|apply Goes.Zo|apply Goes.ops2 fits Hh (Ue Zb hi)); · simp (maxSteps:=9^6) +decide (disch:=first|omega|(simp only[lens]<;>omega)|decide) only [go_sem,Za,simprocAttr,nB,nD,gd,xD,bD,cD,en,w15,dl]<;>rfl))
     refine⟨_,_,(by simp (maxSteps:=9^6) +decide (disch:=first|omega|(simp only[lens]<;>omega)|decide) only [go_sem,Za,simprocAttr,gd,nB,nD]<;>rfl),rfl,fun m hm=>?_⟩
     refine Eq.trans ?_ (kE m hm); (first|(simp (discharger:=omega) only [H.get_put,H.Zf,H.Zk,H.Zc,H.Zh,H.Zi,if_neg]; done)|(simp only[H.get_put,H.Zf,H.Zk,H.Zc,H.Zh,H.Zi]; (repeat' split)<;>first|rfl|(exfalso; omega)|omega))
    | true =>
     rw[mM] at hi
     have wI:Z4 16 [ino0] 0 D=some [D]:=L6 (by have:=Zkz; omega)
     iterate 4 (first|apply Goes.seq|(apply Goes.ops2 fits Hh (Zj Zb (fun _ _ _ _=>Xi Hh)); · simp (maxSteps:=9^6) +decide (disch:=first|omega|(simp only[lens]<;>omega)|decide) only [go_sem,Za,simprocAttr,wI,nB,nD,gd,xD,bD,cD,en,w15,dl]<;>rfl))
     iterate 6 (first|apply Goes.seq|apply Goes.skip|apply Goes.ret|((first|apply Goes.Zo|apply Goes.ops2 fits Hh (Ue Zb hi)); · simp (maxSteps:=9^6) +decide (disch:=first|omega|(simp only[lens]<;>omega)|decide) only [go_sem,Za,simprocAttr,wI,nB,nD,gd,xD,bD,cD,en,w15,dl]<;>rfl))
     refine⟨_,_,(by simp (maxSteps:=9^6) +decide (disch:=first|omega|(simp only[lens]<;>omega)|decide) only [go_sem,Za,simprocAttr,gd,nB,nD,dl]<;>rfl),rfl,fun m hm=>?_⟩
     refine Eq.trans ?_ (kE m hm); (first|(simp (discharger:=omega) only [H.get_put,H.Zf,H.Zk,H.Zc,H.Zh,H.Zi,if_neg]; done)|(simp only[H.get_put,H.Zf,H.Zk,H.Zc,H.Zh,H.Zi]; (repeat' split)<;>first|rfl|(exfalso; omega)|omega))
   rw[eD,←ev]
   refine cc.quiet ?_ hk
   rw[ev]
   cases Zf6 ns p with
   | false=>rfl
   | true=>exact show (D.all C.flat&&(true&&true))=true by rw[df]; rfl
 ·have bn:(((atN ns (p+1):Nat):Int) != 0)=true:=by rw[bne,beq_eq_false_iff_ne.2 (by omega)]; rfl
  have bb:Nat.beq (atN ns (p+1)) 0=false:=by
   cases q:Nat.beq (atN ns (p+1)) 0 with
   | false=>rfl
   | true=>exact absurd (Nat.eq_of_beq_eq_true q) b0
  have dd:Mr ns p=(ino0,70):=by unfold Mr; rw[bb]; rfl
  rw[dd]
  obtain⟨v,h',cc,rfl,hk⟩:∃ v h',Zg K Tryz.prog 46 [.g (pgL ns),.c (.int .i64 (p:Int))] h v h'∧v=.tup [.g ino0,.c (.int .i64 70)]∧∀ m,m<h.next→h'.get m=h.get m:=by
   refine Zg.Yb fits Hh (by kernel_rfl) (by kernel_rfl) (by kernel_rfl) (show Tryz.f46.body=some _ from rfl) rfl ?_
   iterate 16 (first|apply Goes.seq|apply Goes.skip|apply Goes.ret|((first|apply Goes.Zo|apply Goes.ops2 fits Hh (Zj (Zj Zb (fun _ _ _ _=>Ma Hh)) (fun _ _ _ _=>Zcz Hh))); · simp (maxSteps:=9^6) +decide (disch:=first|omega|(simp only[lens]<;>omega)|decide) only [go_sem,Zd,Za,simprocAttr,pd,p1,xl,r1,bn,Z6,U5,Da,bound,Dy,reaches,Nat.add_zero,Nat.zero_add,Nat.mul_one,Nat.add_sub_cancel_left]<;>rfl))
   refine⟨_,_,(by simp (maxSteps:=9^6) +decide (disch:=first|omega|(simp only[lens]<;>omega)|decide) only [go_sem,Zd,Za,simprocAttr,read1]<;>rfl),rfl,fun m hm=>by (first|(simp (discharger:=omega) only [H.get_put,H.Zf,H.Zk,H.Zc,H.Zh,H.Zi,if_neg]; done)|(simp only[H.get_put,H.Zf,H.Zk,H.Zc,H.Zh,H.Zi]; (repeat' split)<;>first|rfl|(exfalso; omega)|omega))⟩
  exact cc.quiet rfl hk
end
end Go.Proofs.YtdkcjalmhdofcaaGreatDoor
