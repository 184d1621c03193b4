/- inode.Get, of any page at any place. -/
import Derived.Test.YtngejdlimkgjfaaGreatDoorIbk
import Derived.Test.YtngejdlimkgjfaaGreatDoorMak3
import Derived.Test.YtngejdlimkgjfaaGreatDoorEvC
set_option linter.unusedSimpArgs false
set_option linter.unusedVariables false
set_option linter.unusedSectionVars false
set_option maxRecDepth 100000
set_option maxHeartbeats 4000000
namespace Go.Proofs.YtngejdlimkgjfaaGreatDoor
open Go.Ev
noncomputable def q50 (p:List Nat):Code:=piece p (Yc Tryz.f50)
theorem Zb8:q50 [1,1,1,1,1,1,1,1,1,1,0,1,2]=.rangeFunc (.tmp 61) #[62,63] (q50 [1,1,1,1,1,1,1,1,1,1,0,1,2,5]) (q50 [1,1,1,1,1,1,1,1,1,1,0,1,2,6]):=by kernel_rfl
theorem Zaz:q50 [1,1,1,1,1,1,1,1,1,1,0,1,2,5]=.seq (q50 [1,1,1,1,1,1,1,1,1,1,0,1,2,5,0]) (q50 [1,1,1,1,1,1,1,1,1,1,0,1,2,5,1]):=by kernel_rfl
theorem Zbi:q50 [1,1,1,1,1,1,1,1,1,1,0,1,2,6]=.block 1 (q50 [1,1,1,1,1,1,1,1,1,1,0,1,2,6,2]):=by kernel_rfl
noncomputable def q136 (p:List Nat):Code:=piece p (Yc Tryz.f136)
theorem rs50:Tryz.f50.results.toList=[.cell 4 30,.tmp 5]:=rfl
theorem rs96:Tryz.f96.results.toList=[.tmp 2]:=rfl
theorem rs136:Tryz.f136.results.toList=[]:=rfl
attribute [go_sem] rs50 rs96 rs136
theorem rs135:Tryz.f135.results.toList=[.tmp 2]:=rfl
attribute [go_sem] rs135
def tlL (ms:List Nat):List (List C):=ms.map fun n=>[.int .u8 ((n % 256:Nat):Int)]
theorem Zwh (ms:List Nat):(tlL ms).length=ms.length:=by simp [tlL]
theorem rdT {ms:List Nat} {i:Nat} (h:i<ms.length):read1 1 (tlL ms) i=some (.int .u8 ((atN ms i:Nat):Int)):=by
 unfold read1 tlL atN
 rw[Nat.div_one,Nat.mod_one,List.getElem?_map,List.getElem?_eq_getElem h,List.getD_eq_getElem?_getD,List.getElem?_eq_getElem h]
 rfl
theorem Zjq:∀ ms:List Nat,chunks 1 ms.length (pgL ms)=tlL ms
 | []=>rfl
 | n :: ms=>by
  show _ :: chunks 1 ms.length (pgL ms)=_
  rw[Zjq ms]
  rfl
theorem Z1a {ns:List Nat} {p k:Nat} (hl:ns.length=256) (h:p+k≤256) (k0:0<k):Zf 256 [pgL ns] p k=some (pgL ((ns.drop p).take k)):=by
 unfold Zf
 rw[Nat.div_eq_of_lt (by omega),Nat.mod_eq_of_lt (by omega),List.getElem?_cons_zero]
 cases hk:Nat.beq k 0 with
 | true=>have:=Nat.eq_of_beq_eq_true hk; omega
 | false =>
  simp only[cond_false,De,hl,Nat.ble_eq_true_of_le h,cond_true]
  unfold pgL
  rw[List.map_take,List.map_drop]
theorem Z01 {ns:List Nat} {p k:Nat} (hl:ns.length=256) (h:p+k≤256) (k0:0<k):Mf 256 [pgL ns] p 1 k=some (tlL ((ns.drop p).take k)):=by
 have e:((ns.drop p).take k).length=k:=by rw[List.length_take,List.length_drop]; omega
 unfold Mf
 cases hk:Nat.beq k 0 with
 | true=>have:=Nat.eq_of_beq_eq_true hk; omega
 | false =>
  rw[Nat.mul_one,Z1a hl h k0]
  show some (chunks 1 k _)=_
  rw[←Zjq,e]
theorem Zlw {ns:List Nat} {p k i:Nat} (h:i<k):atN ((ns.drop p).take k) i=atN ns (p+i):=by
 unfold atN
 rw[List.getD_eq_getElem?_getD,List.getD_eq_getElem?_getD,List.getElem?_take_of_lt h,List.getElem?_drop]
theorem Zzj {ns:List Nat} {p k i:Nat} (h:i+4≤k):Yn ((ns.drop p).take k) i=Yn ns (p+i):=by
 unfold Yn
 rw[Zlw (by omega),Zlw (by omega),Zlw (by omega),Zlw (by omega)]
 rfl
theorem Zor {ns:List Nat} {p k:Nat}:∀ {n i:Nat},i+4 * n≤k→R6 ((ns.drop p).take k) i n=R6 ns (p+i) n
 | 0,_,_=>rfl
 | n+1,i,h=>by
  unfold R6
  rw[Zzj (by omega),Zor (by omega)]
  rfl
def Znr (X:List C) (i:Nat):List Nat→List C
 | []=>X
 | v :: vs=>Znr (X.set i (.int .u32 v)) (i+1) vs
theorem Zoj:∀ (vs:List Nat) (X:List C) (i:Nat),(Znr X i vs).length=X.length
 | [],_,_=>rfl
 | v :: vs,X,i=>by
  unfold Znr
  rw[Zoj vs,List.length_set]
theorem Zsk:∀ ms:List Nat,(tlL ms).all (fun l=>l.all C.flat)=true
 | []=>rfl
 | n :: ms=>Zsk ms
theorem wrC {X:List C} (xl:X.length=16) {j:Nat} (hj:j<16) (c:C):Z5 16 [X] j [c]=some [X.set j c]:=by
 simp only[Z5]
 rw[Nat.div_eq_of_lt hj,Nat.mod_eq_of_lt hj,List.getElem?_cons_zero]
 simp only[]
 rw[Zez (by omega),cond_true]
 rfl
section
variable (Hh:Hearts K Tryz.prog)
include Hh
theorem Z4u {h:Go.Ev.H} {q a:Nat} {ms:List Nat} (hl:ms.length=44) (hp:h.get q=some (.row 1 (tlL ms) false)) (h2:a+4≤44):Ze K Tryz.prog 134 [.c (.slice q 0 44 1),.c (.int .i64 a),.c (.int .i64 4)] h (.tup [.c (.int .u32 ((Yn ms a:Nat):Int)),.c (.bool true)]) h:=by
 have e0:(a:Int)+0=(a:Int):=Int.add_zero _
 have e1:(a:Int)+1=((a+1:Nat):Int):=rfl
 have e2:(a:Int)+2=((a+2:Nat):Int):=rfl
 have e3:(a:Int)+3=((a+3:Nat):Int):=rfl
 have g:Yn ms a=atN ms a+256 * (atN ms (a+1)+256 * (atN ms (a+2)+256 * atN ms (a+3))):=rfl
 have r0:=rdT (ms:=ms) (i:=a) (by omega)
 have r1:=rdT (ms:=ms) (i:=a+1) (by omega)
 have r2:=rdT (ms:=ms) (i:=a+2) (by omega)
 have r3:=rdT (ms:=ms) (i:=a+3) (by omega)
 obtain⟨b0,k0⟩:∃ b,atN ms a=b:=⟨_,rfl⟩
 obtain⟨b1,k1⟩:∃ b,atN ms (a+1)=b:=⟨_,rfl⟩
 obtain⟨b2,k2⟩:∃ b,atN ms (a+2)=b:=⟨_,rfl⟩
 obtain⟨b3,k3⟩:∃ b,atN ms (a+3)=b:=⟨_,rfl⟩
 have l0:=L9 ms a
 have l1:=L9 ms (a+1)
 have l2:=L9 ms (a+2)
 have l3:=L9 ms (a+3)
 rw[g,k0,k1,k2,k3]
 rw[k0] at l0 r0
 rw[k1] at l1 r1
 rw[k2] at l2 r2
 rw[k3] at l3 r3
 have s0:Qa .u32 0 8=some (.int .u32 0):=rfl
 have o0:Bh .u32 Nat.lor 0 (b3:Int)=.int .u32 (b3:Int):=by
  have:=or8 (v:=0) (by omega) l3
  rwa [Nat.mul_zero,Nat.add_zero] at this
 have s1:=shl8 (v:=b3) (by omega)
 have o1:=or8 (v:=b3) (by omega) l2
 have s2:=shl8 (v:=b2+256 * b3) (by omega)
 have o2:=or8 (v:=b2+256 * b3) (by omega) l1
 have s3:=shl8 (v:=b1+256 * (b2+256 * b3)) (by omega)
 have o3:=or8 (v:=b1+256 * (b2+256 * b3)) (by omega) l0
 have tl:(tlL ms).length=44:=by rw[Zwh,hl]
 obtain⟨T,hT⟩:∃ T,tlL ms=T:=⟨_,rfl⟩
 rw[hT] at hp r0 r1 r2 r3 tl
 refine Ze.goes fits Hh (by kernel_rfl) (by kernel_rfl) (by kernel_rfl) (show Tryz.f134.body=some _ from rfl) rfl ?_
 repeat (first|apply Goes.seq|apply Goes.block|apply Goes.loop|apply Goes.skip|apply Goes.exit|apply Goes.ret|((first|apply Goes.Zr|apply Goes.ops2 fits Hh (Zh Zc (fun _ _ _ _=>Nt Hh))); · simp (maxSteps:=9^6) +decide (disch:=first|omega|(simp only[lens]<;>omega)|decide) only [go_sem,Zf,Za,simprocAttr,hp,e0,e1,e2,e3,s0,o0,s1,o1,s2,o2,s3,o3,r0,r1,r2,r3,Nat.zero_add,Zt,Y8]<;>rfl))
 simp (maxSteps:=9^6) +decide (disch:=first|omega|(simp only[lens]<;>omega)|decide) only [go_sem,Zf,Za,simprocAttr]<;>rfl
theorem Z4a {h:Go.Ev.H} {q a:Nat} {ms:List Nat} (hl:ms.length=44) (hp:h.get q=some (.row 1 (tlL ms) false)) (h2:a+4≤44):Ze K Tryz.prog 95 [.c (.slice q 0 44 1),.c (.int .i64 a)] h (.tup [.c (.int .u32 ((Yn ms a:Nat):Int)),.c (.bool true)]) h:=by
 have c1:=Z4u Hh hl hp h2
 refine Ze.goes fits Hh (by kernel_rfl) (by kernel_rfl) (by kernel_rfl) (show Tryz.f95.body=some _ from rfl) rfl ?_
 iterate 3 (first|apply Goes.seq|(apply Goes.ops2 fits Hh Zc; · simp (maxSteps:=9^6) +decide (disch:=first|omega|(simp only[lens]<;>omega)|decide) only [go_sem,Zf,Za,simprocAttr]<;>rfl))
 iterate 2 (first|apply Goes.ret|(apply Goes.ops2 fits Hh (Zy Zc c1); · simp (maxSteps:=9^6) +decide (disch:=first|omega|(simp only[lens]<;>omega)|decide) only [go_sem,Zf,Za,simprocAttr,Z7]<;>rfl))
 simp (maxSteps:=9^6) +decide (disch:=first|omega|(simp only[lens]<;>omega)|decide) only [go_sem,Zf,Za,simprocAttr]<;>rfl
theorem Z3i (h:Go.Ev.H) (q:Nat):Ze K Tryz.prog 95 [.c (.slice q 0 44 1),.c (.int .i64 44)] h (.tup [.c (.int .u32 0),.c (.bool false)]) h:=by
 have cw:Ze K Tryz.prog 164 [.c (.int .i64 44),.c (.int .i64 44),.c (.int .i64 4)] h (.w (.c (.bool false))) h:=by
  refine Ze.goes fits Hh (by kernel_rfl) (by kernel_rfl) (by kernel_rfl) (show Tryz.f164.body=some _ from rfl) rfl ?_
  repeat (first|apply Goes.seq|apply Goes.block|apply Goes.loop|apply Goes.skip|apply Goes.exit|apply Goes.ret|((first|apply Goes.Zr|apply Goes.ops2 fits Hh Zc); · simp (maxSteps:=9^6) +decide (disch:=first|omega|(simp only[lens]<;>omega)|decide) only [go_sem,Zf,Za,simprocAttr]<;>rfl))
  simp (maxSteps:=9^6) +decide (disch:=first|omega|(simp only[lens]<;>omega)|decide) only [go_sem,Zf,Za,simprocAttr]<;>rfl
 have c1:Ze K Tryz.prog 134 [.c (.slice q 0 44 1),.c (.int .i64 44),.c (.int .i64 4)] h (.tup [.c (.int .u32 0),.c (.bool false)]) h:=by
  refine Ze.goes fits Hh (by kernel_rfl) (by kernel_rfl) (by kernel_rfl) (show Tryz.f134.body=some _ from rfl) rfl ?_
  iterate 4 (first|apply Goes.seq|(apply Goes.ops2 fits Hh Zc; · simp (maxSteps:=9^6) +decide (disch:=first|omega|(simp only[lens]<;>omega)|decide) only [go_sem,Zf,Za,simprocAttr,Zt,Y8]<;>rfl))
  iterate 5 (first|apply Goes.seq|apply Goes.ret|((first|apply Goes.Zr|apply Goes.ops2 fits Hh (Zy Zc cw)); · simp (maxSteps:=9^6) +decide (disch:=first|omega|(simp only[lens]<;>omega)|decide) only [go_sem,Zf,Za,simprocAttr,Z7,Zt,Y8]<;>rfl))
  simp (maxSteps:=9^6) +decide (disch:=first|omega|(simp only[lens]<;>omega)|decide) only [go_sem,Zf,Za,simprocAttr,Zt,Y8]<;>rfl
 refine Ze.goes fits Hh (by kernel_rfl) (by kernel_rfl) (by kernel_rfl) (show Tryz.f95.body=some _ from rfl) rfl ?_
 iterate 3 (first|apply Goes.seq|(apply Goes.ops2 fits Hh Zc; · simp (maxSteps:=9^6) +decide (disch:=first|omega|(simp only[lens]<;>omega)|decide) only [go_sem,Zf,Za,simprocAttr]<;>rfl))
 iterate 2 (first|apply Goes.ret|(apply Goes.ops2 fits Hh (Zy Zc c1); · simp (maxSteps:=9^6) +decide (disch:=first|omega|(simp only[lens]<;>omega)|decide) only [go_sem,Zf,Za,simprocAttr,Z7]<;>rfl))
 simp (maxSteps:=9^6) +decide (disch:=first|omega|(simp only[lens]<;>omega)|decide) only [go_sem,Zf,Za,simprocAttr]<;>rfl
theorem Zxr {h:Go.Ev.H} {p off:Nat} {ns:List Nat} (hl:ns.length=256) (hp:h.get p=some (.row 256 [pgL ns] false)) (h1:off+44≤256):Ze K Tryz.prog 135 [.c (.slice p off 44 1)] h (.w (.c (.slice h.next 0 44 1))) (h.new (.row 1 (tlL ((ns.drop off).take 44)) false)):=by
 have rm:=Z01 hl h1 (by omega)
 have tl:(tlL ((ns.drop off).take 44)).length=44:=by rw[Zwh,List.length_take,List.length_drop]; omega
 have tf:=Zsk ((ns.drop off).take 44)
 obtain⟨T,hT⟩:∃ T,tlL ((ns.drop off).take 44)=T:=⟨_,rfl⟩
 rw[hT] at rm tl tf ⊢
 refine Ze.tidy ⟨Tryz.f135,Tryz.func135,by kernel_rfl,by decide⟩ fun tidy=>?_
 have l1:=tidy _ _ hp
 obtain⟨v,h',cc,n',rfl,n1,n2,n3,hk⟩:∃ v h',Ze K Tryz.prog 135 [.c (.slice p off 44 1)] h v h'∧∃ n',v=.w (.c (.slice n' 0 44 1))∧h.next≤n'∧n'<h'.next∧h'.get n'=some (.row 1 T false)∧∀ m,m<h.next→h'.get m=h.get m:=by
  rcases T with _|⟨x0,T⟩
  ·simp only[List.length_nil] at tl; omega
  ·
   refine Ze.Z8 fits Hh (by kernel_rfl) (by kernel_rfl) (by kernel_rfl) (show Tryz.f135.body=some _ from rfl) rfl ?_
   repeat (first|apply Goes.seq|apply Goes.block|apply Goes.loop|apply Goes.skip|apply Goes.exit|apply Goes.ret|((first|apply Goes.Zr|apply Goes.ops2 fits Hh Zc); · simp (maxSteps:=9^6) +decide (disch:=first|omega|(simp only[lens]<;>omega)|decide) only [go_sem,Zf,Za,simprocAttr,hp,rm,tl,List.length_append,Nat.zero_add,Zt,Bz,U5,Ox,Zax,Tu,Za5,Zaw,Yw,Ga,Y7,List.replicate_succ,List.replicate_zero,Nat.zero_mul]<;>rfl))
   exact⟨_,_,(by simp (maxSteps:=9^6) +decide (disch:=first|omega|(simp only[lens]<;>omega)|decide) only [go_sem,Zf,Za,simprocAttr]<;>rfl),_,rfl,(by first|omega|(simp only[H.Zd,H.Zj]<;>omega)),(by first|omega|(simp only[H.Zd,H.Zj]<;>omega)),(by rw[Eo (by rw[H.Zj,H.Zd]; omega)]),fun m hm=>by (first|(simp (discharger:=omega) only [H.get_put,H.Zi,H.Zm,H.Zd,H.Zg,H.Zj,if_neg]; done)|(simp only[H.get_put,H.Zi,H.Zm,H.Zd,H.Zg,H.Zj]; (repeat' split)<;>first|rfl|(exfalso; omega)|omega))⟩
 exact Ze.row1 cc n1 n3 tf n2 hk
theorem Z3s {h:Go.Ev.H} {p off:Nat} {ns:List Nat} (hl:ns.length=256) (hp:h.get p=some (.row 256 [pgL ns] false)) (h1:off+44≤256):Ze K Tryz.prog 96 [.c (.slice p off 44 1)] h (.w (.c (.fn 136 [] [some (h.next+1,0)]))) (((h.new (.row 1 (tlL ((ns.drop off).take 44)) false)).new (.row 1 [[.snil]] false)).put (h.next+1) (.row 1 [[.slice h.next 0 44 1]] false)):=by
 have c1:=Zxr Hh hl hp h1
 obtain⟨T,hT⟩:∃ T,tlL ((ns.drop off).take 44)=T:=⟨_,rfl⟩
 rw[hT] at c1 ⊢
 refine Ze.goes fits Hh (by kernel_rfl) (by kernel_rfl) (by kernel_rfl) (show Tryz.f96.body=some _ from rfl) rfl ?_
 iterate 3 (first|apply Goes.seq|(apply Goes.ops2 fits Hh Zc; · simp (maxSteps:=9^6) +decide (disch:=first|omega|(simp only[lens]<;>omega)|decide) only [go_sem,Zf,Za,simprocAttr,Zw,Z5]<;>rfl))
 iterate 4 (first|apply Goes.seq|apply Goes.ret|(apply Goes.ops2 fits Hh (Zy Zc c1); · simp (maxSteps:=9^6) +decide (disch:=first|omega|(simp only[lens]<;>omega)|decide) only [go_sem,Zf,Za,simprocAttr,Z7,Zw,Z5]<;>rfl))
 simp (maxSteps:=9^6) +decide (disch:=first|omega|(simp only[lens]<;>omega)|decide) only [go_sem,Zf,Za,simprocAttr,Zw,Z5]<;>rfl
section
variable {l px pb q d:Nat} {lts:Zx} {ms:List Nat}
noncomputable def M5 (lts:Zx) (st:LoopState) (d:Nat):O:=.loop lts 80 [62,63] (q50 [1,1,1,1,1,1,1,1,1,1,0,1,2,5]) (q50 [1,1,1,1,1,1,1,1,1,1,0,1,2,6]) st none d
theorem gtA (l:Nat) (ts:Zx) (h:Go.Ev.H) {t w:C} (e1:Zq ts 62=.w (.c t)) (e2:Zq ts 63=.w (.c w)):Goes K Tryz.prog 80 (some l) (q50 [1,1,1,1,1,1,1,1,1,1,0,1,2,5]) [] ts h fun x ds' ts' h'=>x=.normal∧ds'=[]∧h'=h∧(∀ s,s≤11→Zq ts' s=Zq ts s)∧Zq ts' 12=Zq ts 62∧Zq ts' 13=Zq ts 63:=by
 iterate 3 (first|apply Goes.seq|(apply Goes.ops2 fits Hh Zc; · simp (maxSteps:=9^6) +decide (disch:=first|omega|(simp only[lens]<;>omega)|decide) only [go_sem,Zf,Za,simprocAttr,e1,e2]<;>rfl))
 refine⟨rfl,rfl,rfl,fun s hs=>?_,?_,?_⟩
 ·simp (decide:=true) only [Uv hs]
 ·rw[e1]; simp (maxSteps:=9^6) +decide (disch:=first|omega|(simp only[lens]<;>omega)|decide) only [go_sem,Zf,Za,simprocAttr]
 ·rw[e2]; simp (maxSteps:=9^6) +decide (disch:=first|omega|(simp only[lens]<;>omega)|decide) only [go_sem,Zf,Za,simprocAttr]
theorem gtB (l:Nat) {ts:Zx} {h:Go.Ev.H} {i v:Nat} {X:List C} (ii:i<11) (e7:Zq ts 7=.w (.c (.ptr px 0))) (e12:Zq ts 12=.w (.c (.int .i64 ((4 * i:Nat):Int)))) (e13:Zq ts 13=.w (.c (.int .u32 (v:Int)))) (hx:h.get px=some (.row 16 [X] false)) (xl:X.length=16) :
  Goes K Tryz.prog 80 (some l) (q50 [1,1,1,1,1,1,1,1,1,1,0,1,2,6]) [] ts h fun x _ _ h'=>x=.normal∧h'=h.put px (.row 16 [X.set (4+i) (.int .u32 (v:Int))] false):=by
 have q4:M0 .i64 ((4 * i:Nat):Int) 4=some (.int .i64 (i:Int)):=by
  rw[show (4:Int)=((4:Nat):Int) from rfl,L6 (by omega) (by omega),Nat.mul_div_cancel_left _ (by omega)]
 have wc:=wrC xl (j:=4+i) (by omega) (.int .u32 (v:Int))
 iterate 2 (first|apply Goes.block|(apply Goes.ops2 fits Hh Zc; · simp (maxSteps:=9^6) +decide (disch:=first|omega|(simp only[lens]<;>omega)|decide) only [go_sem,Zf,Za,simprocAttr,e7,e12,e13,hx,q4,wc]<;>rfl))
 exact⟨rfl,rfl⟩
theorem Zu7 (l px:Nat):∃ E,Sound K Tryz.prog E∧∀ (lts:Zx) (d i v:Nat) (X:List C) (h:Go.Ev.H),l≠px→Zq lts 7=.w (.c (.ptr px 0))→i<11→h.get l=some (M5 lts .ready d)→h.get px=some (.row 16 [X] false)→X.length=16 →
  Gn E l (some [.c (.int .i64 ((4 * i:Nat):Int)),.c (.int .u32 (v:Int))]) h (some (M5 lts .ready d))=some (.val (.w (.c (.bool true))) (((h.put l (M5 lts .busy d)).put px (.row 16 [X.set (4+i) (.int .u32 (v:Int))] false)).put l (M5 lts .ready d))):=by
 have ne:(q50 [1,1,1,1,1,1,1,1,1,1,0,1,2,5])≠(q50 [1,1,1,1,1,1,1,1,1,1,0,1,2,6]):=fun e=>by
  rw[Zbi,Zaz] at e
  cases e
 obtain⟨E,S,g⟩:=rounds (K:=K) (P:=Tryz.prog) (n:=80) (l:=l) ne
  (PA:=fun ts _=>∃ t w,Zq ts 62=.w (.c t)∧Zq ts 63=.w (.c w))
  (QA:=fun ts ts'=>(∀ s,s≤11→Zq ts' s=Zq ts s)∧Zq ts' 12=Zq ts 62∧Zq ts' 13=Zq ts 63)
  (PB:=fun ts h=>∃ (i v:Nat) (X:List C),i<11∧Zq ts 7=.w (.c (.ptr px 0))∧Zq ts 12=.w (.c (.int .i64 ((4 * i:Nat):Int)))∧Zq ts 13=.w (.c (.int .u32 (v:Int)))∧h.get px=some (.row 16 [X] false)∧X.length=16)
  (QB:=fun ts h h'=>∀ (i v:Nat) (X:List C),Zq ts 12=.w (.c (.int .i64 ((4 * i:Nat):Int)))→Zq ts 13=.w (.c (.int .u32 (v:Int)))→h.get px=some (.row 16 [X] false)→h'=h.put px (.row 16 [X.set (4+i) (.int .u32 (v:Int))] false))
  (fun ts h ⟨t,w,e1,e2⟩=>gtA Hh l ts h e1 e2)
  (fun ts h ⟨i,v,X,ii,e7,e12,e13,hx,xl⟩=>(gtB Hh l ii e7 e12 e13 hx xl).mono fun x _ _ h' ⟨x1,x2⟩=>⟨x1,fun i' v' X' f1 f2 f3=>by
   rw[e12] at f1
   rw[e13] at f2
   rw[hx] at f3
   cases f3
   have a1:((4 * i:Nat):Int)=((4 * i':Nat):Int):=by injection f1 with f1; injection f1 with f1; injection f1
   have a2:(v:Int)=(v':Int):=by injection f2 with f2; injection f2 with f2; injection f2
   obtain rfl:i=i':=by omega
   obtain rfl:v=v':=by omega
   exact x2⟩)
 refine⟨E,S,fun lts d i v X h nl e7 ii hl hx xl=>?_⟩
 have z1:Zq ((lts.set 62 (.w (.c (.int .i64 ((4 * i:Nat):Int))))).set 63 (.w (.c (.int .u32 (v:Int))))) 62=.w (.c (.int .i64 ((4 * i:Nat):Int))):=by simp (decide:=true) only [Zn,reduceIte]
 have z2:Zq ((lts.set 62 (.w (.c (.int .i64 ((4 * i:Nat):Int))))).set 63 (.w (.c (.int .u32 (v:Int))))) 63=.w (.c (.int .u32 (v:Int))):=by simp (decide:=true) only [Zn,reduceIte]
 have z7:Zq ((lts.set 62 (.w (.c (.int .i64 ((4 * i:Nat):Int))))).set 63 (.w (.c (.int .u32 (v:Int))))) 7=.w (.c (.ptr px 0)):=by simp (decide:=true) only [Zn,reduceIte,e7]
 have hx':(h.put l (M5 lts .busy d)).get px=some (.row 16 [X] false):=by rw[Zp (Ne.symm nl)]; exact hx
 obtain⟨ts',h',⟨a1,a2,a3⟩,b,r⟩:=g [.c (.int .i64 ((4 * i:Nat):Int)),.c (.int .u32 (v:Int))] h lts _ [62,63] d hl rfl ⟨_,_,z1,z2⟩ fun ts' ⟨a1,a2,a3⟩=>⟨i,v,X,ii,(a1 7 (by decide)).trans z7,a2.trans z1,a3.trans z2,hx',xl⟩
 have b:=b i v X (a2.trans z1) (a3.trans z2) hx'
 subst b
 exact r (by rw[Zp nl]; exact Z9 ..)
theorem Zt0 {E:Task→Option Out} (S:Sound K Tryz.prog E) (e7:Zq lts 7=.w (.c (.ptr px 0))) (nl:l≠px)
  (rnd:∀ (i v:Nat) (X:List C) (h:Go.Ev.H),i<11→h.get l=some (M5 lts .ready d)→h.get px=some (.row 16 [X] false)→X.length=16→Gn E l (some [.c (.int .i64 ((4 * i:Nat):Int)),.c (.int .u32 (v:Int))]) h (some (M5 lts .ready d))=some (.val (.w (.c (.bool true))) (((h.put l (M5 lts .busy d)).put px (.row 16 [X.set (4+i) (.int .u32 (v:Int))] false)).put l (M5 lts .ready d))))
  (ml:ms.length=44) (nb:pb≠l∧pb≠px) (nq:q≠l∧q≠px):∀ (m i:Nat) (X:List C) (ts:Zx) (h:Go.Ev.H),i+m=11→h.get l=some (M5 lts .ready d)→h.get px=some (.row 16 [X] false)→X.length=16→h.get pb=some (.row 1 [[.slice q 0 44 1]] false)→h.get q=some (.row 1 (tlL ms) false) →
  Zq ts 0=.w (.c (.yield l))→Zq ts 1=.w (.c (.ptr pb 0))→Zq ts 3=.w (.c (.int .i64 ((4 * i:Nat):Int))) →
  Goes K Tryz.prog 25 none (q136 [1,1,2]) [] ts h fun x ds' _ h'=>x=.ret∧ds'=[]∧h'.next=h.next∧h'.get l=some (M5 lts .ready d)∧h'.get px=some (.row 16 [Znr X (4+i) (R6 ms (4 * i) m)] false)∧∀ k,k≠l→k≠px→h'.get k=h.get k:=by
 intro m
 induction m with
 | zero =>
  intro i X ts h hi hl hx xl hb hq e0 e1 e3
  obtain rfl:i=11:=by omega
  have c1:=Z3i Hh h q
  iterate 4 (first|apply Goes.seq|apply Goes.block|apply Goes.loop)
  iterate 5 (first|apply Goes.seq|apply Goes.ret|((first|apply Goes.Zr|apply Goes.ops2 fits Hh (Zy Zc c1)); · simp (maxSteps:=9^6) +decide (disch:=first|omega|(simp only[lens]<;>omega)|decide) only [go_sem,Zf,Za,simprocAttr,Z7,e0,e1,e3,hb,read1]<;>rfl))
  exact⟨rfl,rfl,rfl,hl,hx,fun _ _ _=>rfl⟩
 | succ m ih =>
  intro i X ts h hi hl hx xl hb hq e0 e1 e3
  have c1:=Z4a Hh ml hq (a:=4 * i) (by omega)
  have gW:R6 ms (4 * i) (m+1)=Yn ms (4 * i) :: R6 ms (4 * (i+1)) m:=rfl
  rw[gW]
  obtain⟨v,hv⟩:∃ v,Yn ms (4 * i)=v:=⟨_,rfl⟩
  rw[hv] at c1 ⊢
  have r:=rnd i v X h (by omega) hl hx xl
  obtain⟨h2,eh⟩:∃ h2,((h.put l (M5 lts .busy d)).put px (.row 16 [X.set (4+i) (.int .u32 (v:Int))] false)).put l (M5 lts .ready d)=h2:=⟨_,rfl⟩
  rw[eh] at r
  have n2:h2.next=h.next:=by rw[←eh]; rfl
  have l2:h2.get l=some (M5 lts .ready d):=by rw[←eh,Z9]
  have x2:h2.get px=some (.row 16 [X.set (4+i) (.int .u32 (v:Int))] false):=by rw[←eh,Zp (Ne.symm nl),Z9]
  have k2:∀ k,k≠l→k≠px→h2.get k=h.get k:=fun k k1 k2=>by rw[←eh,Zp k1,Zp k2,Zp k1]
  clear eh
  have n4:((4 * i:Nat):Int)+4=((4 * (i+1):Nat):Int):=by omega
  iterate 4 (first|apply Goes.seq|apply Goes.block|apply Goes.loop)
  iterate 2 (first|apply Goes.seq|(apply Goes.ops2 fits Hh (Zy Zc c1); · simp (maxSteps:=9^6) +decide (disch:=first|omega|(simp only[lens]<;>omega)|decide) only [go_sem,Zf,Za,simprocAttr,Z7,e0,e1,e3,hb,hl,r,n4,read1]<;>rfl))
  iterate 4 (first|apply Goes.skip|((first|apply Goes.Zr|apply Goes.ops2 fits Hh S); · simp (maxSteps:=9^6) +decide (disch:=first|omega|(simp only[lens]<;>omega)|decide) only [go_sem,Zf,Za,simprocAttr,e0,e1,e3,hb,hl,r,n4,read1]<;>rfl))
  show Goes K Tryz.prog 25 none (q136 [1,1,2]) _ _ _ _
  refine (ih (i+1) _ _ h2 (by omega) l2 x2 (by rw[List.length_set]; exact xl) ((k2 _ nb.1 nb.2).trans hb) ((k2 _ nq.1 nq.2).trans hq) ?_ ?_ ?_).mono ?_
  ·simp (decide:=true) only [Zn,reduceIte,e0]
  ·simp (decide:=true) only [Zn,reduceIte,e1]
  ·simp (decide:=true) only [Zn,reduceIte]<;>rfl
  rintro x ds' ts2 h3 ⟨rfl,rfl,z1,z2,z3,z4⟩
  exact⟨rfl,rfl,z1.trans n2,z2,z3,fun k k1 k3=>(z4 k k1 k3).trans (k2 k k1 k3)⟩
theorem Z10 {h:Go.Ev.H} {X:List C} (e7:Zq lts 7=.w (.c (.ptr px 0))) (nl:l≠px) (ml:ms.length=44) (nb:pb≠l∧pb≠px) (nq:q≠l∧q≠px) (hl:h.get l=some (M5 lts .ready d)) (hx:h.get px=some (.row 16 [X] false)) (xl:X.length=16) (hb:h.get pb=some (.row 1 [[.slice q 0 44 1]] false)) (hq:h.get q=some (.row 1 (tlL ms) false)) :
  ∃ v h',Ze K Tryz.prog 136 [.c (.yield l),.c (.ptr pb 0)] h v h'∧h'.next=h.next∧h'.get l=some (M5 lts .ready d)∧h'.get px=some (.row 16 [Znr X 4 (R6 ms 0 11)] false)∧∀ k,k≠l→k≠px→h'.get k=h.get k:=by
 obtain⟨E,S,g⟩:=Zu7 Hh l px
 have rnd:=fun i v X h ii hl hx xl=>g lts d i v X h nl e7 ii hl hx xl
 refine Ze.Z8 fits Hh (by kernel_rfl) (by kernel_rfl) (by kernel_rfl) (show Tryz.f136.body=some _ from rfl) rfl ?_
 iterate 8 (first|apply Goes.seq|apply Goes.skip|apply Goes.block|((first|apply Goes.Zr|apply Goes.ops2 fits Hh Zc); · simp (maxSteps:=9^6) +decide (disch:=first|omega|(simp only[lens]<;>omega)|decide) only [go_sem,Zf,Za,simprocAttr]<;>rfl))
 refine (Zt0 Hh S e7 nl rnd ml nb nq 11 0 X _ h (by omega) hl hx xl hb hq ?_ ?_ ?_).mono ?_
 ·simp (decide:=true) only [Zn,reduceIte,Ow,List.getElem?_cons_zero]
 ·simp (decide:=true) only [Zn,reduceIte,Ow,List.getElem?_cons_succ,List.getElem?_cons_zero]
 ·simp (decide:=true) only [Zn,reduceIte]<;>rfl
 rintro x ds' ts2 h3 ⟨rfl,rfl,z1,z2,z3,z4⟩
 exact⟨_,_,(by simp (maxSteps:=9^6) +decide (disch:=first|omega|(simp only[lens]<;>omega)|decide) only [go_sem,Zf,Za,simprocAttr]<;>rfl),z1,z2,z3,z4⟩
theorem getLoop {ts:Zx} {h:Go.Ev.H} {X:List C} (e7:Zq ts 7=.w (.c (.ptr px 0))) (e61:Zq ts 61=.w (.c (.fn 136 [] [some (pb,0)]))) (ml:ms.length=44) (hx:h.get px=some (.row 16 [X] false)) (xl:X.length=16) (hb:h.get pb=some (.row 1 [[.slice q 0 44 1]] false)) (hq:h.get q=some (.row 1 (tlL ms) false)) (lx:px<h.next) (lb:pb<h.next) (lq:q<h.next) (nb:pb≠px) (nq:q≠px) :
  Goes K Tryz.prog 80 none (q50 [1,1,1,1,1,1,1,1,1,1,0,1,2]) [] ts h fun x ds' ts' h'=>x=.normal∧ts'=ts∧ds'=[h.next]∧h'.next=h.next+1+1∧h'.get h.next=some .defers∧h'.get px=some (.row 16 [Znr X 4 (R6 ms 0 11)] false)∧∀ m,m<h.next→m≠px→h'.get m=h.get m:=by
 have g0:∀ (o:O) m,m<h.next→((h.new .defers).new o).get m=h.get m:=fun o m hm=>by rw[Y4 (by rw[H.Zd]; omega),Y4 (by omega)]
 have gd:∀ o:O,((h.new .defers).new o).get h.next=some .defers:=fun o=>by rw[Y4 (by rw[H.Zd]; omega),Bo]
 rw[Zb8]
 refine Goes.Zl1 fits Hh (f:=136) (first:=[]) (caps:=[some (pb,0)]) (by simp only[Z4,Y5,e61,asC]) (exE (Z10 Hh (l:=h.next+1) (px:=px) (pb:=pb) (q:=q) (d:=h.next) (lts:=ts) (ms:=ms) (X:=X) e7 (by omega) ml ⟨by omega,nb⟩ ⟨by omega,nq⟩ (by rw[Eo (by simp only[H.Zd]<;>omega)]; rfl) (by rw[g0 _ _ lx]; exact hx) xl (by rw[g0 _ _ lb]; exact hb) (by rw[g0 _ _ lq]; exact hq)) ?_)
 rintro v h3 ⟨w0,w1,w2,w3⟩
 refine⟨_,_,_,_,_,_,_,_,w1,by simp,?_⟩
 show _∧_∧_
 refine⟨rfl,rfl,rfl,?_,?_,?_,fun m hm hne=>?_⟩
 ·rw[H.Zg,w0]; rfl
 ·rw[Zp (by omega),w3 _ (by omega) (by omega),gd]
 ·rw[Zp (by omega),w2]
 ·rw[Zp (by omega),w3 _ (by omega) hne,g0 _ _ hm]
end
end
end Go.Proofs.YtngejdlimkgjfaaGreatDoor
set_option maxRecDepth 100000
set_option maxHeartbeats 4000000
namespace Go.Proofs.YtngejdlimkgjfaaGreatDoor
open Go.Ev
section
variable (Hh:Hearts K Tryz.prog)
include Hh
theorem Z17 {ns:List Nat} {p:Nat} (nl:ns.length=256) (pc:p=0∨p=64∨p=128∨p=192) (h:Go.Ev.H):Ze K Tryz.prog 50 [.g (pgL ns),.c (.int .i64 (p:Int))] h (.tup [.g (Mv ns p).1,.c (.int .i64 (Mv ns p).2)]) h:=by
 have pl:p+64≤256:=by omega
 have pd:decide ((p:Int)=0∨(p:Int)=64∨(p:Int)=128∨(p:Int)=192)=true:=decide_eq_true (by omega)
 have p1:(p:Int)+64=((p+64:Nat):Int):=rfl
 have xl:(pgL ns).length=256:=by rw[De,nl]
 have r1:read1 256 [pgL ns] (p+1)=some (.int .u8 ((atN ns (p+1):Nat):Int)):=Zu0 ⟨by omega,by omega⟩
 have r0:read1 256 [pgL ns] p=some (.int .u8 ((atN ns p:Nat):Int)):=Zu0 ⟨by omega,by omega⟩
 by_cases b0:atN ns (p+1)=0
 ·rw[b0] at r1
  cases zz:Dc ns (p+60) 4 with
  | false =>
   have dd:Mv ns p=(ino0,70):=by unfold Mv; rw[b0,zz]; rfl
   rw[dd]
   obtain⟨v,h',cc,rfl,hk⟩:∃ v h',Ze K Tryz.prog 50 [.g (pgL ns),.c (.int .i64 (p:Int))] h v h'∧v=.tup [.g ino0,.c (.int .i64 70)]∧∀ m,m<h.next→h'.get m=h.get m:=by
    refine Ze.Z8 fits Hh (by kernel_rfl) (by kernel_rfl) (by kernel_rfl) (show Tryz.f50.body=some _ from rfl) rfl ?_
    iterate 16 (first|apply Goes.seq|apply Goes.skip|apply Goes.ret|((first|apply Goes.Zr|apply Goes.ops2 fits Hh (Zh (Zh Zc (fun _ _ _ _=>Rj Hh)) (fun _ _ _ _=>Zfv Hh))); · simp (maxSteps:=9^6) +decide (disch:=first|omega|(simp only[lens]<;>omega)|decide) only [go_sem,Zf,Za,simprocAttr,pd,p1,xl,r1,zz,Zw,Gm,Fg,bound,F8,reaches,Nat.add_zero,Nat.zero_add,Nat.mul_one,Nat.add_sub_cancel_left]<;>rfl))
    refine⟨_,_,(by simp (maxSteps:=9^6) +decide (disch:=first|omega|(simp only[lens]<;>omega)|decide) only [go_sem,Zf,Za,simprocAttr,read1]<;>rfl),rfl,fun m hm=>by (first|(simp (discharger:=omega) only [H.get_put,H.Zi,H.Zm,H.Zd,H.Zg,H.Zj,if_neg]; done)|(simp only[H.get_put,H.Zi,H.Zm,H.Zd,H.Zg,H.Zj]; (repeat' split)<;>first|rfl|(exfalso; omega)|omega))⟩
   exact cc.quiet rfl hk
  | true =>
   have dd:Mv ns p=bif Zi1 ns p then (Zla ns p,0) else (ino0,70):=by
    unfold Mv
    rw[b0,zz]
    rfl
   rw[dd]
   have hi:=fun h=>Zfo Hh (atN ns p:Int) (U7 ns (p+2):Int) (Yn ns (p+4):Int) (Yn ns (p+8):Int) (Yn ns (p+12):Int) (Yn ns (p+16):Int) (Yn ns (p+20):Int) (Yn ns (p+24):Int) (Yn ns (p+28):Int) (Yn ns (p+32):Int) (Yn ns (p+36):Int) (Yn ns (p+40):Int) (Yn ns (p+44):Int) (Yn ns (p+48):Int) (Yn ns (p+52):Int) (Yn ns (p+56):Int) h
   change ∀ h,Ze K Tryz.prog 42 [.g (Zla ns p)] h (.w (.c (.bool (Zi1 ns p)))) h at hi
   have gw:R6 ((ns.drop (p+12)).take 44) 0 11=[Yn ns (p+12),Yn ns (p+16),Yn ns (p+20),Yn ns (p+24),Yn ns (p+28),Yn ns (p+32),Yn ns (p+36),Yn ns (p+40),Yn ns (p+44),Yn ns (p+48),Yn ns (p+52)]:=by
    rw[Zor (by omega)]
    simp only[R6,Nat.add_assoc,Nat.reduceAdd,Nat.add_zero]
   have g2:=Zl4 ns (p+2)
   have g4:=Zte ns (p+4)
   have g8:=Zte ns (p+8)
   have ml:((ns.drop (p+12)).take 44).length=44:=by rw[List.length_take,List.length_drop]; omega
   obtain⟨l2,e2⟩:∃ x,U7 ns (p+2)=x:=⟨_,rfl⟩
   obtain⟨l4,e4⟩:∃ x,Yn ns (p+4)=x:=⟨_,rfl⟩
   obtain⟨l8,e8⟩:∃ x,Yn ns (p+8)=x:=⟨_,rfl⟩
   obtain⟨kk,ek⟩:∃ x,atN ns p=x:=⟨_,rfl⟩
   obtain⟨nx,en⟩:∃ x,Yn ns (p+56)=x:=⟨_,rfl⟩
   have hC:((Znr [.int .u8 kk,.int .i64 l2,.int .u32 l4,.int .i64 l8,.int .u32 0,.int .u32 0,.int .u32 0,.int .u32 0,.int .u32 0,.int .u32 0,.int .u32 0,.int .u32 0,.int .u32 0,.int .u32 0,.int .u32 0,.int .u32 0] 4 (R6 ((ns.drop (p+12)).take 44) 0 11)).set 15 (.int .u32 nx))=Zla ns p:=by
    rw[gw]
    unfold Zla
    rw[e2,e4,e8,ek,en]
    rfl
   have Yl:=Zoj (R6 ((ns.drop (p+12)).take 44) 0 11) [.int .u8 kk,.int .i64 l2,.int .u32 l4,.int .i64 l8,.int .u32 0,.int .u32 0,.int .u32 0,.int .u32 0,.int .u32 0,.int .u32 0,.int .u32 0,.int .u32 0,.int .u32 0,.int .u32 0,.int .u32 0,.int .u32 0] 4
   have dl:(Zla ns p).length=16:=rfl
   rw[e2] at g2
   rw[e4] at g4
   rw[e8] at g8
   rw[ek] at r0
   obtain⟨D,eD⟩:∃ D,Zla ns p=D:=⟨_,rfl⟩
   have df:D.all C.flat=true:=by rw[←eD]; rfl
   obtain⟨v,h',cc,ev,hk⟩:∃ v h',Ze K Tryz.prog 50 [.g (pgL ns),.c (.int .i64 (p:Int))] h v h'∧v=.tup [.g (bif Zi1 ns p then (D,(0:Int)) else (ino0,70)).1,.c (.int .i64 (bif Zi1 ns p then (D,(0:Int)) else (ino0,70)).2)]∧∀ m,m<h.next→h'.get m=h.get m:=by
    rw[eD] at hi hC dl
    refine Ze.Z8 fits Hh (by kernel_rfl) (by kernel_rfl) (by kernel_rfl) (show Tryz.f50.body=some _ from rfl) rfl ?_
    iterate 28 (first|apply Goes.seq|apply Goes.skip|((first|apply Goes.Zr|apply Goes.ops2 fits Hh (Zh (Zh (Zh (Zh Zc (fun _ _ _ _=>Rj Hh)) (fun _ _ _ _=>Zfv Hh)) (fun _ _ _ _=>Zju Hh)) (fun _ _ _ _=>Qh Hh))); · simp (maxSteps:=9^6) +decide (disch:=first|omega|(simp only[lens]<;>omega)|decide) only [go_sem,Zf,Za,simprocAttr,pd,p1,xl,r1,r0,zz,e2,e4,e8,Zw,Z5,Gm,Fg,bound,F8,reaches,Nat.add_zero,Nat.zero_add,Nat.mul_one,Nat.add_sub_cancel_left]<;>rfl))
    refine Goes.abs fun hA eA=>?_
    have nA:hA.next=h.next+1+1+1:=by rw[eA]; simp only[H.Zg,H.Zd]
    have kA:∀ m,m<h.next→hA.get m=h.get m:=fun m hm=>by rw[eA]; (first|(simp (discharger:=omega) only [H.get_put,H.Zi,H.Zm,H.Zd,H.Zg,H.Zj,if_neg]; done)|(simp only[H.get_put,H.Zi,H.Zm,H.Zd,H.Zg,H.Zj]; (repeat' split)<;>first|rfl|(exfalso; omega)|omega))
    have bA:hA.get h.next=some (.row 256 [pgL ns] false):=by rw[eA]; simp (maxSteps:=9^6) +decide (disch:=first|omega|(simp only[lens]<;>omega)|decide) only [go_sem,Zf,Za,simprocAttr,xl]<;>rfl
    have cA:hA.get (h.next+1)=some (.row 16 [ino0] false):=by rw[eA]; simp (maxSteps:=9^6) +decide (disch:=first|omega|(simp only[lens]<;>omega)|decide) only [go_sem,Zf,Za,simprocAttr]<;>rfl
    have xA:hA.get (h.next+1+1)=some (.row 16 [[.int .u8 kk,.int .i64 l2,.int .u32 l4,.int .i64 l8,.int .u32 0,.int .u32 0,.int .u32 0,.int .u32 0,.int .u32 0,.int .u32 0,.int .u32 0,.int .u32 0,.int .u32 0,.int .u32 0,.int .u32 0,.int .u32 0]] false):=by rw[eA]; simp (maxSteps:=9^6) +decide (disch:=first|omega|(simp only[lens]<;>omega)|decide) only [go_sem,Zf,Za,simprocAttr,Z5]<;>rfl
    clear eA
    have c12:=Z3s Hh nl bA (off:=p+12) (by omega)
    iterate 2 (first|apply Goes.block|(apply Goes.ops2 fits Hh (Zy Zc c12); · simp (maxSteps:=9^6) +decide (disch:=first|omega|(simp only[lens]<;>omega)|decide) only [go_sem,Zf,Za,simprocAttr,Z7,pd,p1,xl,r1,r0,zz,e2,e4,e8,nA,bA,Zw,Z5,Gm,Fg,bound,F8,reaches,Nat.add_zero,Nat.zero_add,Nat.mul_one,Nat.add_sub_cancel_left]<;>rfl))
    refine Goes.abs fun hB eB=>?_
    have nB:hB.next=h.next+1+1+1+1+1:=by rw[eB]; simp only[H.Zg,H.Zd,nA]
    have kB:∀ m,m<hA.next→hB.get m=hA.get m:=fun m hm=>by rw[eB]; (first|(simp (discharger:=omega) only [H.get_put,H.Zi,H.Zm,H.Zd,H.Zg,H.Zj,if_neg]; done)|(simp only[H.get_put,H.Zi,H.Zm,H.Zd,H.Zg,H.Zj]; (repeat' split)<;>first|rfl|(exfalso; omega)|omega))
    have qB:hB.get (h.next+1+1+1)=some (.row 1 (tlL ((ns.drop (p+12)).take 44)) false):=by rw[eB]; simp (maxSteps:=9^6) +decide (disch:=first|omega|(simp only[lens]<;>omega)|decide) only [go_sem,Zf,Za,simprocAttr,nA]<;>rfl
    have pB:hB.get (h.next+1+1+1+1)=some (.row 1 [[.slice (h.next+1+1+1) 0 44 1]] false):=by rw[eB]; simp (maxSteps:=9^6) +decide (disch:=first|omega|(simp only[lens]<;>omega)|decide) only [go_sem,Zf,Za,simprocAttr,nA]<;>rfl
    clear eB
    refine (getLoop Hh (h:=hB) (px:=h.next+1+1) (pb:=h.next+1+1+1+1) (q:=h.next+1+1+1) ?_ ?_ ml ((kB _ (by omega)).trans xA) rfl pB qB (by omega) (by omega) (by omega) (by omega) (by omega)).mono ?_
    ·simp (decide:=true) only [Zn,reduceIte,nA]
    ·simp (decide:=true) only [Zn,reduceIte,nA]
    rintro x ds' ts' hD ⟨rfl,rfl,rfl,nD,gd,xD,kD⟩
    rw[nB] at gd nD
    have bD:hD.get h.next=some (.row 256 [pgL ns] false):=(kD _ (by omega) (by omega)).trans ((kB _ (by omega)).trans bA)
    have cD:hD.get (h.next+1)=some (.row 16 [ino0] false):=(kD _ (by omega) (by omega)).trans ((kB _ (by omega)).trans cA)
    have kE:∀ m,m<h.next→hD.get m=h.get m:=fun m hm=>(kD _ (by omega) (by omega)).trans ((kB _ (by omega)).trans (kA m hm))
    obtain⟨Y,eY⟩:∃ Y,Znr [.int .u8 kk,.int .i64 l2,.int .u32 l4,.int .i64 l8,.int .u32 0,.int .u32 0,.int .u32 0,.int .u32 0,.int .u32 0,.int .u32 0,.int .u32 0,.int .u32 0,.int .u32 0,.int .u32 0,.int .u32 0,.int .u32 0] 4 (R6 ((ns.drop (p+12)).take 44) 0 11)=Y:=⟨_,rfl⟩
    rw[eY] at xD hC Yl
    have w15:=wrC Yl (j:=15) (by omega) (.int .u32 nx)
    rw[hC] at w15
    cases mM:Zi1 ns p with
    | false =>
     rw[mM] at hi
     iterate 4 (first|apply Goes.seq|(apply Goes.ops2 fits Hh (Zh Zc (fun _ _ _ _=>Qh Hh)); · simp (maxSteps:=9^6) +decide (disch:=first|omega|(simp only[lens]<;>omega)|decide) only [go_sem,Za,simprocAttr,nB,nD,gd,xD,bD,cD,en,w15,dl]<;>rfl))
     iterate 5 (first|apply Goes.seq|apply Goes.ret|((first|apply Goes.Zr|apply Goes.ops2 fits Hh (G6 Zc hi)); · simp (maxSteps:=9^6) +decide (disch:=first|omega|(simp only[lens]<;>omega)|decide) only [go_sem,Za,simprocAttr,nB,nD,gd,xD,bD,cD,en,w15,dl]<;>rfl))
     refine⟨_,_,(by simp (maxSteps:=9^6) +decide (disch:=first|omega|(simp only[lens]<;>omega)|decide) only [go_sem,Za,simprocAttr,gd,nB,nD]<;>rfl),rfl,fun m hm=>?_⟩
     refine Eq.trans ?_ (kE m hm); (first|(simp (discharger:=omega) only [H.get_put,H.Zi,H.Zm,H.Zd,H.Zg,H.Zj,if_neg]; done)|(simp only[H.get_put,H.Zi,H.Zm,H.Zd,H.Zg,H.Zj]; (repeat' split)<;>first|rfl|(exfalso; omega)|omega))
    | true =>
     rw[mM] at hi
     have wI:Z5 16 [ino0] 0 D=some [D]:=Rw (by have:=Zf4; omega)
     iterate 4 (first|apply Goes.seq|(apply Goes.ops2 fits Hh (Zh Zc (fun _ _ _ _=>Qh Hh)); · simp (maxSteps:=9^6) +decide (disch:=first|omega|(simp only[lens]<;>omega)|decide) only [go_sem,Za,simprocAttr,wI,nB,nD,gd,xD,bD,cD,en,w15,dl]<;>rfl))
     iterate 6 (first|apply Goes.seq|apply Goes.skip|apply Goes.ret|((first|apply Goes.Zr|apply Goes.ops2 fits Hh (G6 Zc hi)); · simp (maxSteps:=9^6) +decide (disch:=first|omega|(simp only[lens]<;>omega)|decide) only [go_sem,Za,simprocAttr,wI,nB,nD,gd,xD,bD,cD,en,w15,dl]<;>rfl))
     refine⟨_,_,(by simp (maxSteps:=9^6) +decide (disch:=first|omega|(simp only[lens]<;>omega)|decide) only [go_sem,Za,simprocAttr,gd,nB,nD,dl]<;>rfl),rfl,fun m hm=>?_⟩
     refine Eq.trans ?_ (kE m hm); (first|(simp (discharger:=omega) only [H.get_put,H.Zi,H.Zm,H.Zd,H.Zg,H.Zj,if_neg]; done)|(simp only[H.get_put,H.Zi,H.Zm,H.Zd,H.Zg,H.Zj]; (repeat' split)<;>first|rfl|(exfalso; omega)|omega))
   rw[eD,←ev]
   refine cc.quiet ?_ hk
   rw[ev]
   cases Zi1 ns p with
   | false=>rfl
   | true=>exact show (D.all C.flat&&(true&&true))=true by rw[df]; rfl
 ·have bn:(((atN ns (p+1):Nat):Int) != 0)=true:=by rw[bne,beq_eq_false_iff_ne.2 (by omega)]; rfl
  have bb:Nat.beq (atN ns (p+1)) 0=false:=by
   cases q:Nat.beq (atN ns (p+1)) 0 with
   | false=>rfl
   | true=>exact absurd (Nat.eq_of_beq_eq_true q) b0
  have dd:Mv ns p=(ino0,70):=by unfold Mv; rw[bb]; rfl
  rw[dd]
  obtain⟨v,h',cc,rfl,hk⟩:∃ v h',Ze K Tryz.prog 50 [.g (pgL ns),.c (.int .i64 (p:Int))] h v h'∧v=.tup [.g ino0,.c (.int .i64 70)]∧∀ m,m<h.next→h'.get m=h.get m:=by
   refine Ze.Z8 fits Hh (by kernel_rfl) (by kernel_rfl) (by kernel_rfl) (show Tryz.f50.body=some _ from rfl) rfl ?_
   iterate 16 (first|apply Goes.seq|apply Goes.skip|apply Goes.ret|((first|apply Goes.Zr|apply Goes.ops2 fits Hh (Zh (Zh Zc (fun _ _ _ _=>Rj Hh)) (fun _ _ _ _=>Zfv Hh))); · simp (maxSteps:=9^6) +decide (disch:=first|omega|(simp only[lens]<;>omega)|decide) only [go_sem,Zf,Za,simprocAttr,pd,p1,xl,r1,bn,Zw,Gm,Fg,bound,F8,reaches,Nat.add_zero,Nat.zero_add,Nat.mul_one,Nat.add_sub_cancel_left]<;>rfl))
   refine⟨_,_,(by simp (maxSteps:=9^6) +decide (disch:=first|omega|(simp only[lens]<;>omega)|decide) only [go_sem,Zf,Za,simprocAttr,read1]<;>rfl),rfl,fun m hm=>by (first|(simp (discharger:=omega) only [H.get_put,H.Zi,H.Zm,H.Zd,H.Zg,H.Zj,if_neg]; done)|(simp only[H.get_put,H.Zi,H.Zm,H.Zd,H.Zg,H.Zj]; (repeat' split)<;>first|rfl|(exfalso; omega)|omega))⟩
  exact cc.quiet rfl hk
end
end Go.Proofs.YtngejdlimkgjfaaGreatDoor
