/- disk.Load, slices.Clone of blocks. -/
import Derived.Test.YtecakmodlkbnaaaGreatDoorNew2
import Derived.Test.YtecakmodlkbnaaaGreatDoorIbk
import Derived.Test.YtecakmodlkbnaaaGreatDoorEvC
import Derived.Test.YtecakmodlkbnaaaGreatDoorWhat3
set_option linter.unusedSimpArgs false
set_option linter.unusedVariables false
set_option linter.unusedSectionVars false
set_option maxRecDepth 100000
set_option maxHeartbeats 4000000
namespace Go.Proofs.YtecakmodlkbnaaaGreatDoor
open Go.Ev
theorem rs66:Tryz.f66.results.toList=[.tmp 2]:=rfl
theorem rs19:Tryz.f19.results.toList=[.tmp 2,.tmp 3]:=rfl
attribute [go_sem] rs66 rs19
def imB (L:List (List C)):Bool:=L.all fun x=>Nat.beq x.length 256&&x.all C.flat
theorem Zmm {L:List (List C)} (h:imB L=true) {x:List C} (hx:x∈L):x.length=256∧x.all C.flat=true:=by
 have:=List.all_eq_true.1 h x hx
 rw[Bool.and_eq_true] at this
 exact⟨Nat.eq_of_beq_eq_true this.1,this.2⟩
theorem Zh4 {L:List (List C)} (h:imB L=true):L.all (fun l=>l.all C.flat)=true:=List.all_eq_true.2 fun x hx=>(Zmm h hx).2
theorem Lx {L:List (List C)} (h:imB L=true) {x:List C} (xl:x.length=256) (xf:x.all C.flat=true) (i:Nat):imB (L.set i x)=true:=List.all_eq_true.2 fun y hy=>by
 rcases List.mem_or_eq_of_mem_set hy with h1|rfl
 ·exact List.all_eq_true.1 h y h1
 ·rw[xl,xf]; rfl
theorem Zuj (n:Nat):imB (List.replicate n zB)=true:=List.all_eq_true.2 fun y hy=>by
 obtain rfl:=(List.mem_replicate.1 hy).2
 kernel_rfl
noncomputable def Zjd:Kn1:=fun args h=>match args with
 | [.c (.slice n 0 len z)]=>match h.get n with
  | some (.row s L _)=>Y8 (Nat.beq s 256&&Nat.beq z 256&&Nat.beq L.length len&&Nat.ble 1 len&&Nat.ble len 2048&&imB L) (some (.w (.c (.slice h.next 0 len 256)),h.new (.row 256 L false)))
  | _=>none
 | _=>none
noncomputable def Zq6:Kn1:=fun args h=>match args with
 | [.c (.slice n 0 len z)]=>match h.get n with
  | some (.row s L _)=>Y8 (Nat.beq s 256&&Nat.beq z 256&&Nat.beq L.length len&&Nat.ble 1 len&&Nat.ble len 2048&&imB L) (some (.tup [.c (.ptr (h.next+1+1) 0),.c (.int .i64 0)],((h.new (.row 256 L false)).new (.row 256 L false)).new (.row 6 [dkL ⟨h.next,h.next+1,len,.snil,0,0⟩] false)))
  | _=>none
 | _=>none
attribute [go_sem] Zjd Zq6
section
variable (Hh:Hearts K Tryz.prog)
include Hh
theorem Zps {args:List W} {h h':Go.Ev.H} {v:V} (e:Zjd args h=some (v,h')):Zg 66 args h v h':=by
 unfold Zjd at e
 split at e
 ·rename_i n len z
  split at e
  ·rename_i s L ro heq
   obtain⟨q,e⟩:=Zu.1 e
   cases e
   simp only[Bool.and_eq_true] at q
   obtain⟨⟨⟨⟨⟨q1,q2⟩,q3⟩,q4⟩,q5⟩,q6⟩:=q
   obtain rfl:=Nat.eq_of_beq_eq_true q1
   obtain rfl:=Nat.eq_of_beq_eq_true q2
   have q3:=Nat.eq_of_beq_eq_true q3
   have q4:=Nat.le_of_ble_eq_true q4
   have q5:=Nat.le_of_ble_eq_true q5
   have rm:Fj 256 L 0 256 len=some L:=by rw[←q3]; exact Zdj 256 L
   refine Zy.tidy ⟨Tryz.f66,Tryz.func66,by kernel_rfl,by decide⟩ fun tidy=>?_
   have l1:=tidy _ _ heq
   obtain⟨v,h',cc,n',rfl,n1,n2,n3,hk⟩:∃ v h',Zg 66 [.c (.slice n 0 len 256)] h v h'∧∃ n',v=.w (.c (.slice n' 0 len 256))∧h.next≤n'∧n'<h'.next∧h'.get n'=some (.row 256 L false)∧∀ m,m<h.next→h'.get m=h.get m:=by
    rcases L with _|⟨x0,L⟩
    ·simp only[List.length_nil] at q3; omega
    ·
     refine Yg Hh Tryz.f66 ?_
     repeat (first|apply Zk|apply Zw|apply Z0|((first|apply Goes.Zi|apply Goes.ops2 fits Hh Za); · simp (maxSteps:=9^6) +decide (disch:=first|omega|(simp only[lens]<;>omega)|decide) only [go_sem,Zn,Zm,simprocAttr,heq,rm,q3,List.length_append,Nat.zero_add,Zr,Ol,Jg,Ul,Qi,Vw,Zbz,Qr,Yj,U9,Y3,List.replicate_succ,List.replicate_zero,Nat.zero_mul]<;>rfl))
     exact⟨_,_,Zc,_,rfl,(by first|omega|(simp only[H.Zb,H.Yv]<;>omega)),(by first|omega|(simp only[H.Zb,H.Yv]<;>omega)),(by rw[Jv (by rw[H.Yv,H.Zb]; omega)]),fun m hm=>by exact Ry⟩
   exact Zy.row1 cc n1 n3 (Zh4 q6) n2 hk
  ·cases e
 ·cases e
theorem Zwu {args:List W} {h h':Go.Ev.H} {v:V} (e:Zq6 args h=some (v,h')):Zg 19 args h v h':=by
 unfold Zq6 at e
 split at e
 ·rename_i n len z
  split at e
  ·rename_i s L ro heq
   obtain⟨q,e⟩:=Zu.1 e
   cases e
   simp only[Bool.and_eq_true] at q
   obtain⟨⟨⟨⟨⟨q1,q2⟩,q3⟩,q4⟩,q5⟩,q6⟩:=q
   obtain rfl:=Nat.eq_of_beq_eq_true q1
   obtain rfl:=Nat.eq_of_beq_eq_true q2
   have q3:=Nat.eq_of_beq_eq_true q3
   have q4:=Nat.le_of_ble_eq_true q4
   have q5:=Nat.le_of_ble_eq_true q5
   refine Zy.tidy ⟨Tryz.f19,Tryz.func19,by kernel_rfl,by decide⟩ fun tidy=>?_
   have l1:=tidy _ _ heq
   refine fnG Hh Tryz.f19 ?_
   have Jf:=Jb @heq @q3 @q6
   repeat (first|apply Zk|apply Zw|apply Z0|refine Goes.Zi Ur ?_|refine Zq Hh (EY (EY Za (Z3n Hh)) (Zps Hh)) Ur ?_)
   exact Zc
  ·cases e
 ·cases e
end
theorem ty242:K.types.get 242=some ti242:=by kernel_rfl
theorem sz242:ti242.size=1:=by rfl
theorem ag242:ti242.agg=false:=by rfl
attribute [go_sem] ty242 sz242 ag242
noncomputable def q40 (p:List Nat):Code:=piece p (Uh Tryz.f40)
theorem Zdd:q40 [1,1,1,1,1,1,1,1,1,1,0,1,2]=.rangeFunc (.tmp 61) #[62,63] (q40 [1,1,1,1,1,1,1,1,1,1,0,1,2,5]) (q40 [1,1,1,1,1,1,1,1,1,1,0,1,2,6]):=by kernel_rfl
theorem Zbn:q40 [1,1,1,1,1,1,1,1,1,1,0,1,2,5]=.seq (q40 [1,1,1,1,1,1,1,1,1,1,0,1,2,5,0]) (q40 [1,1,1,1,1,1,1,1,1,1,0,1,2,5,1]):=by kernel_rfl
theorem Zbk:q40 [1,1,1,1,1,1,1,1,1,1,0,1,2,6]=.block 1 (q40 [1,1,1,1,1,1,1,1,1,1,0,1,2,6,2]):=by kernel_rfl
noncomputable def q151 (p:List Nat):Code:=piece p (Uh Tryz.f151)
theorem rs40:Tryz.f40.results.toList=[.cell 4 39,.tmp 5]:=rfl
theorem rs96:Tryz.f96.results.toList=[.tmp 2]:=rfl
theorem rs151:Tryz.f151.results.toList=[]:=rfl
attribute [go_sem] rs40 rs96 rs151
theorem rs150:Tryz.f150.results.toList=[.tmp 2]:=rfl
attribute [go_sem] rs150
def tlL (ms:List Nat):List (List C):=ms.map fun n=>[.int .u8 ((n % 256:Nat):Int)]
theorem Z3l (ms:List Nat):(tlL ms).length=ms.length:=by simp [tlL]
theorem rdT {ms:List Nat} {i:Nat} (h:i<ms.length):read1 1 (tlL ms) i=some (.int .u8 ((atN ms i:Nat):Int)):=by
 unfold read1 tlL atN
 rw[Nat.div_one,Nat.mod_one,List.getElem?_map,List.getElem?_eq_getElem h,List.getD_eq_getElem?_getD,List.getElem?_eq_getElem h]
 rfl
theorem Zkb:∀ ms:List Nat,chunks 1 ms.length (pgL ms)=tlL ms
 | []=>rfl
 | n :: ms=>by
  show _ :: chunks 1 ms.length (pgL ms)=_
  rw[Zkb ms]
  rfl
theorem Z4a {ns:List Nat} {p k:Nat} (hl:ns.length=256) (h:p+k≤256) (k0:0<k):Zn 256 [pgL ns] p k=some (pgL ((ns.drop p).take k)):=by
 unfold Zn
 rw[Nat.div_eq_of_lt (by omega),Nat.mod_eq_of_lt (by omega),List.getElem?_cons_zero]
 cases hk:Nat.beq k 0 with
 | true=>have:=Nat.eq_of_beq_eq_true hk; omega
 | false =>
  simp only[cond_false,Jy,hl,Nat.ble_eq_true_of_le h,cond_true]
  unfold pgL
  rw[List.map_take,List.map_drop]
theorem Z4h {ns:List Nat} {p k:Nat} (hl:ns.length=256) (h:p+k≤256) (k0:0<k):Fj 256 [pgL ns] p 1 k=some (tlL ((ns.drop p).take k)):=by
 have e:((ns.drop p).take k).length=k:=by rw[List.length_take,List.length_drop]; omega
 unfold Fj
 cases hk:Nat.beq k 0 with
 | true=>have:=Nat.eq_of_beq_eq_true hk; omega
 | false =>
  rw[Nat.mul_one,Z4a hl h k0]
  show some (chunks 1 k _)=_
  rw[←Zkb,e]
theorem Zmz {ns:List Nat} {p k i:Nat} (h:i<k):atN ((ns.drop p).take k) i=atN ns (p+i):=by
 unfold atN
 rw[List.getD_eq_getElem?_getD,List.getD_eq_getElem?_getD,List.getElem?_take_of_lt h,List.getElem?_drop]
theorem Z03 {ns:List Nat} {p k i:Nat} (h:i+4≤k):Yk ((ns.drop p).take k) i=Yk ns (p+i):=by
 unfold Yk
 rw[Zmz (by omega),Zmz (by omega),Zmz (by omega),Zmz (by omega)]
 rfl
theorem Zor {ns:List Nat} {p k:Nat}:∀ {n i:Nat},i+4 * n≤k→Tt ((ns.drop p).take k) i n=Tt ns (p+i) n
 | 0,_,_=>rfl
 | n+1,i,h=>by
  unfold Tt
  rw[Z03 (by omega),Zor (by omega)]
  rfl
def Zqv (X:List C) (i:Nat):List Nat→List C
 | []=>X
 | v :: vs=>Zqv (X.set i (.int .u32 v)) (i+1) vs
theorem Zqx:∀ (vs:List Nat) (X:List C) (i:Nat),(Zqv X i vs).length=X.length
 | [],_,_=>rfl
 | v :: vs,X,i=>by
  unfold Zqv
  rw[Zqx vs,List.length_set]
theorem Zvj:∀ ms:List Nat,(tlL ms).all (fun l=>l.all C.flat)=true
 | []=>rfl
 | n :: ms=>Zvj ms
theorem wrC {X:List C} (xl:X.length=16) {j:Nat} (hj:j<16) (c:C):Z4 16 [X] j [c]=some [X.set j c]:=by
 simp only[Z4]
 rw[Nat.div_eq_of_lt hj,Nat.mod_eq_of_lt hj,List.getElem?_cons_zero]
 simp only[]
 rw[Qm (by omega),cond_true]
 rfl
section
variable (Hh:Hearts K Tryz.prog)
include Hh
theorem Ybr {h:Go.Ev.H} {q a:Nat} {ms:List Nat} (hl:ms.length=44) (hp:h.get q=some (.row 1 (tlL ms) false)) (h2:a+4≤44):Zg 149 [.c (.slice q 0 44 1),.c (.int .i64 a),.c (.int .i64 4)] h (.tup [.c (.int .u32 ((Yk ms a:Nat):Int)),.c (.bool true)]) h:=by
 have e0:(a:Int)+0=(a:Int):=Int.add_zero _
 have e1:(a:Int)+1=((a+1:Nat):Int):=rfl
 have e2:(a:Int)+2=((a+2:Nat):Int):=rfl
 have e3:(a:Int)+3=((a+3:Nat):Int):=rfl
 have g:Yk ms a=atN ms a+256 * (atN ms (a+1)+256 * (atN ms (a+2)+256 * atN ms (a+3))):=rfl
 have r0:=rdT (ms:=ms) (i:=a) (by omega)
 have r1:=rdT (ms:=ms) (i:=a+1) (by omega)
 have r2:=rdT (ms:=ms) (i:=a+2) (by omega)
 have r3:=rdT (ms:=ms) (i:=a+3) (by omega)
 obtain⟨b0,k0⟩:∃ b,atN ms a=b:=⟨_,rfl⟩
 obtain⟨b1,k1⟩:∃ b,atN ms (a+1)=b:=⟨_,rfl⟩
 obtain⟨b2,k2⟩:∃ b,atN ms (a+2)=b:=⟨_,rfl⟩
 obtain⟨b3,k3⟩:∃ b,atN ms (a+3)=b:=⟨_,rfl⟩
 have l0:=Mx ms a
 have l1:=Mx ms (a+1)
 have l2:=Mx ms (a+2)
 have l3:=Mx ms (a+3)
 rw[g,k0,k1,k2,k3]
 rw[k0] at l0 r0
 rw[k1] at l1 r1
 rw[k2] at l2 r2
 rw[k3] at l3 r3
 have s0:Qc .u32 0 8=some (.int .u32 0):=rfl
 have o0:Dc .u32 Nat.lor 0 (b3:Int)=.int .u32 (b3:Int):=by
  have:=or8 (v:=0) (by omega) l3
  rwa [Nat.mul_zero,Nat.add_zero] at this
 have s1:=shl8 (v:=b3) (by omega)
 have o1:=or8 (v:=b3) (by omega) l2
 have s2:=shl8 (v:=b2+256 * b3) (by omega)
 have o2:=or8 (v:=b2+256 * b3) (by omega) l1
 have s3:=shl8 (v:=b1+256 * (b2+256 * b3)) (by omega)
 have o3:=or8 (v:=b1+256 * (b2+256 * b3)) (by omega) l0
 have tl:(tlL ms).length=44:=by rw[Z3l,hl]
 obtain⟨T,hT⟩:∃ T,tlL ms=T:=⟨_,rfl⟩
 rw[hT] at hp r0 r1 r2 r3 tl
 refine fnG Hh Tryz.f149 ?_
 have Jf:=Yy @hp (Yu @e0 @e1 @e2 @e3 @s0 @o0 @s1 @o1 (Yu @s2 @o2 @s3 @o3 @r0 @r1 @r2 @r3 @Nat.zero_add))
 repeat (first|apply Zk|apply Yt|apply Je|apply Zw|apply Ux|apply Z0|refine Goes.Zi Ur ?_|refine Zq Hh (EY Za (Rh Hh)) Ur ?_)
 exact Zc
theorem Z9g {h:Go.Ev.H} {q a:Nat} {ms:List Nat} (hl:ms.length=44) (hp:h.get q=some (.row 1 (tlL ms) false)) (h2:a+4≤44):Zg 95 [.c (.slice q 0 44 1),.c (.int .i64 a)] h (.tup [.c (.int .u32 ((Yk ms a:Nat):Int)),.c (.bool true)]) h:=by
 have c1:=Ybr Hh hl hp h2
 refine fnG Hh Tryz.f95 ?_
 iterate 3 (first|apply Zk|refine Zq Hh Za Zc ?_)
 iterate 2 (first|apply Z0|refine Zq Hh (Zp Za c1) Zc ?_)
 exact Zc
theorem Z8j (h:Go.Ev.H) (q:Nat):Zg 95 [.c (.slice q 0 44 1),.c (.int .i64 44)] h (.tup [.c (.int .u32 0),.c (.bool false)]) h:=by
 have cw:Zg 194 [.c (.int .i64 44),.c (.int .i64 44),.c (.int .i64 4)] h (.w (.c (.bool false))) h:=by
  refine fnG Hh Tryz.f194 ?_
  repeat (first|apply Zk|apply Z0|refine Zq Hh Za Zc ?_)
  exact Zc
 have c1:Zg 149 [.c (.slice q 0 44 1),.c (.int .i64 44),.c (.int .i64 4)] h (.tup [.c (.int .u32 0),.c (.bool false)]) h:=by
  refine fnG Hh Tryz.f149 ?_
  iterate 4 (first|apply Zk|refine Zq Hh Za Zn4 ?_)
  iterate 5 (first|apply Zk|apply Z0|refine Goes.Zi Zn4 ?_|refine Zq Hh (Zp Za cw) Zn4 ?_)
  exact Zn4
 refine fnG Hh Tryz.f95 ?_
 iterate 3 (first|apply Zk|refine Zq Hh Za Zc ?_)
 iterate 2 (first|apply Z0|refine Zq Hh (Zp Za c1) Zc ?_)
 exact Zc
theorem Z26 {h:Go.Ev.H} {p off:Nat} {ns:List Nat} (hl:ns.length=256) (hp:h.get p=some (.row 256 [pgL ns] false)) (h1:off+44≤256):Zg 150 [.c (.slice p off 44 1)] h (.w (.c (.slice h.next 0 44 1))) (h.new (.row 1 (tlL ((ns.drop off).take 44)) false)):=by
 have rm:=Z4h hl h1 (by omega)
 have tl:(tlL ((ns.drop off).take 44)).length=44:=by rw[Z3l,List.length_take,List.length_drop]; omega
 have tf:=Zvj ((ns.drop off).take 44)
 obtain⟨T,hT⟩:∃ T,tlL ((ns.drop off).take 44)=T:=⟨_,rfl⟩
 rw[hT] at rm tl tf ⊢
 refine Zy.tidy ⟨Tryz.f150,Tryz.func150,by kernel_rfl,by decide⟩ fun tidy=>?_
 have l1:=tidy _ _ hp
 obtain⟨v,h',cc,n',rfl,n1,n2,n3,hk⟩:∃ v h',Zg 150 [.c (.slice p off 44 1)] h v h'∧∃ n',v=.w (.c (.slice n' 0 44 1))∧h.next≤n'∧n'<h'.next∧h'.get n'=some (.row 1 T false)∧∀ m,m<h.next→h'.get m=h.get m:=by
  rcases T with _|⟨x0,T⟩
  ·simp only[List.length_nil] at tl; omega
  ·
   refine Yg Hh Tryz.f150 ?_
   repeat (first|apply Zk|apply Zw|apply Z0|((first|apply Goes.Zi|apply Goes.ops2 fits Hh Za); · simp (maxSteps:=9^6) +decide (disch:=first|omega|(simp only[lens]<;>omega)|decide) only [go_sem,Zn,Zm,simprocAttr,hp,rm,tl,List.length_append,Nat.zero_add,Zr,Ol,Jg,Ul,Qi,Vw,Zbz,Qr,Yj,U9,Y3,List.replicate_succ,List.replicate_zero,Nat.zero_mul]<;>rfl))
   exact⟨_,_,Zc,_,rfl,(by first|omega|(simp only[H.Zb,H.Yv]<;>omega)),(by first|omega|(simp only[H.Zb,H.Yv]<;>omega)),(by rw[Jv (by rw[H.Yv,H.Zb]; omega)]),fun m hm=>by exact Ry⟩
 exact Zy.row1 cc n1 n3 tf n2 hk
theorem Z9a {h:Go.Ev.H} {p off:Nat} {ns:List Nat} (hl:ns.length=256) (hp:h.get p=some (.row 256 [pgL ns] false)) (h1:off+44≤256):Zg 96 [.c (.slice p off 44 1)] h (.w (.c (.fn 151 [] [some (h.next+1,0)]))) (((h.new (.row 1 (tlL ((ns.drop off).take 44)) false)).new (.row 1 [[.snil]] false)).put (h.next+1) (.row 1 [[.slice h.next 0 44 1]] false)):=by
 have c1:=Z26 Hh hl hp h1
 obtain⟨T,hT⟩:∃ T,tlL ((ns.drop off).take 44)=T:=⟨_,rfl⟩
 rw[hT] at c1 ⊢
 refine fnG Hh Tryz.f96 ?_
 iterate 3 (first|apply Zk|refine Zq Hh Za Zsn ?_)
 iterate 4 (first|apply Zk|apply Z0|refine Zq Hh (Zp Za c1) Zsn ?_)
 exact Zsn
section
variable {l px pb q d:Nat} {lts:Zx} {ms:List Nat}
noncomputable def Nh (lts:Zx) (st:LoopState) (d:Nat):O:=.loop lts 80 [62,63] (q40 [1,1,1,1,1,1,1,1,1,1,0,1,2,5]) (q40 [1,1,1,1,1,1,1,1,1,1,0,1,2,6]) st none d
theorem gtA (l:Nat) (ts:Zx) (h:Go.Ev.H) {t w:C} (e1:Zh ts 62=.w (.c t)) (e2:Zh ts 63=.w (.c w)):Ye 80 (some l) (q40 [1,1,1,1,1,1,1,1,1,1,0,1,2,5]) [] ts h fun x ds' ts' h'=>x=.normal∧ds'=[]∧h'=h∧(∀ s,s≤11→Zh ts' s=Zh ts s)∧Zh ts' 12=Zh ts 62∧Zh ts' 13=Zh ts 63:=by
 have Jf:=Yy @e1 @e2
 iterate 3 (first|apply Zk|refine Zq Hh Za Zj ?_)
 refine⟨rfl,rfl,rfl,fun s hs=>?_,?_,?_⟩
 ·simp (decide:=true) only [Yz hs]
 ·rw[e1]; exact Zc
 ·rw[e2]; exact Zc
theorem gtB (l:Nat) {ts:Zx} {h:Go.Ev.H} {i v:Nat} {X:List C} (ii:i<11) (e7:Zh ts 7=.w (.c (.ptr px 0))) (e12:Zh ts 12=.w (.c (.int .i64 ((4 * i:Nat):Int)))) (e13:Zh ts 13=.w (.c (.int .u32 (v:Int)))) (hx:h.get px=some (.row 16 [X] false)) (xl:X.length=16) :
  Ye 80 (some l) (q40 [1,1,1,1,1,1,1,1,1,1,0,1,2,6]) [] ts h fun x _ _ h'=>x=.normal∧h'=h.put px (.row 16 [X.set (4+i) (.int .u32 (v:Int))] false):=by
 have q4:Mk .i64 ((4 * i:Nat):Int) 4=some (.int .i64 (i:Int)):=by
  rw[show (4:Int)=((4:Nat):Int) from rfl,Ea (by omega) (by omega),Nat.mul_div_cancel_left _ (by omega)]
 have wc:=wrC xl (j:=4+i) (by omega) (.int .u32 (v:Int))
 have Jf:=Sy @e7 @e12 @e13 @hx @q4 @wc
 iterate 2 (first|apply Yt|refine Zq Hh Za Zj ?_)
 exact⟨rfl,rfl⟩
theorem Zwc (l px:Nat):∃ E,Sound K Tryz.prog E∧∀ (lts:Zx) (d i v:Nat) (X:List C) (h:Go.Ev.H),l≠px→Zh lts 7=.w (.c (.ptr px 0))→i<11→h.get l=some (Nh lts .ready d)→h.get px=some (.row 16 [X] false)→X.length=16 →
  Jz E l (some [.c (.int .i64 ((4 * i:Nat):Int)),.c (.int .u32 (v:Int))]) h (some (Nh lts .ready d))=some (.val (.w (.c (.bool true))) (((h.put l (Nh lts .busy d)).put px (.row 16 [X.set (4+i) (.int .u32 (v:Int))] false)).put l (Nh lts .ready d))):=by
 have ne:(q40 [1,1,1,1,1,1,1,1,1,1,0,1,2,5])≠(q40 [1,1,1,1,1,1,1,1,1,1,0,1,2,6]):=fun e=>by
  rw[Zbk,Zbn] at e
  cases e
 obtain⟨E,S,g⟩:=rounds (K:=K) (P:=Tryz.prog) (n:=80) (l:=l) ne
  (PA:=fun ts _=>∃ t w,Zh ts 62=.w (.c t)∧Zh ts 63=.w (.c w))
  (QA:=fun ts ts'=>(∀ s,s≤11→Zh ts' s=Zh ts s)∧Zh ts' 12=Zh ts 62∧Zh ts' 13=Zh ts 63)
  (PB:=fun ts h=>∃ (i v:Nat) (X:List C),i<11∧Zh ts 7=.w (.c (.ptr px 0))∧Zh ts 12=.w (.c (.int .i64 ((4 * i:Nat):Int)))∧Zh ts 13=.w (.c (.int .u32 (v:Int)))∧h.get px=some (.row 16 [X] false)∧X.length=16)
  (QB:=fun ts h h'=>∀ (i v:Nat) (X:List C),Zh ts 12=.w (.c (.int .i64 ((4 * i:Nat):Int)))→Zh ts 13=.w (.c (.int .u32 (v:Int)))→h.get px=some (.row 16 [X] false)→h'=h.put px (.row 16 [X.set (4+i) (.int .u32 (v:Int))] false))
  (fun ts h ⟨t,w,e1,e2⟩=>gtA Hh l ts h e1 e2)
  (fun ts h ⟨i,v,X,ii,e7,e12,e13,hx,xl⟩=>(gtB Hh l ii e7 e12 e13 hx xl).mono fun x _ _ h' ⟨x1,x2⟩=>⟨x1,fun i' v' X' f1 f2 f3=>by
   rw[e12] at f1
   rw[e13] at f2
   rw[hx] at f3
   cases f3
   have a1:((4 * i:Nat):Int)=((4 * i':Nat):Int):=by injection f1 with f1; injection f1 with f1; injection f1
   have a2:(v:Int)=(v':Int):=by injection f2 with f2; injection f2 with f2; injection f2
   obtain rfl:i=i':=by omega
   obtain rfl:v=v':=by omega
   exact x2⟩)
 refine⟨E,S,fun lts d i v X h nl e7 ii hl hx xl=>?_⟩
 have z1:Zh ((lts.set 62 (.w (.c (.int .i64 ((4 * i:Nat):Int))))).set 63 (.w (.c (.int .u32 (v:Int))))) 62=.w (.c (.int .i64 ((4 * i:Nat):Int))):=by simp (decide:=true) only [Zf,reduceIte]
 have z2:Zh ((lts.set 62 (.w (.c (.int .i64 ((4 * i:Nat):Int))))).set 63 (.w (.c (.int .u32 (v:Int))))) 63=.w (.c (.int .u32 (v:Int))):=by simp (decide:=true) only [Zf,reduceIte]
 have z7:Zh ((lts.set 62 (.w (.c (.int .i64 ((4 * i:Nat):Int))))).set 63 (.w (.c (.int .u32 (v:Int))))) 7=.w (.c (.ptr px 0)):=by simp (decide:=true) only [Zf,reduceIte,e7]
 have hx':(h.put l (Nh lts .busy d)).get px=some (.row 16 [X] false):=by rw[Ze (Ne.symm nl)]; exact hx
 obtain⟨ts',h',⟨a1,a2,a3⟩,b,r⟩:=g [.c (.int .i64 ((4 * i:Nat):Int)),.c (.int .u32 (v:Int))] h lts _ [62,63] d hl rfl ⟨_,_,z1,z2⟩ fun ts' ⟨a1,a2,a3⟩=>⟨i,v,X,ii,(a1 7 (by decide)).trans z7,a2.trans z1,a3.trans z2,hx',xl⟩
 have b:=b i v X (a2.trans z1) (a3.trans z2) hx'
 subst b
 exact r (by rw[Ze nl]; exact Zz ..)
theorem Zwg {E:Task→Option Out} (S:Sound K Tryz.prog E) (e7:Zh lts 7=.w (.c (.ptr px 0))) (nl:l≠px)
  (rnd:∀ (i v:Nat) (X:List C) (h:Go.Ev.H),i<11→h.get l=some (Nh lts .ready d)→h.get px=some (.row 16 [X] false)→X.length=16→Jz E l (some [.c (.int .i64 ((4 * i:Nat):Int)),.c (.int .u32 (v:Int))]) h (some (Nh lts .ready d))=some (.val (.w (.c (.bool true))) (((h.put l (Nh lts .busy d)).put px (.row 16 [X.set (4+i) (.int .u32 (v:Int))] false)).put l (Nh lts .ready d))))
  (ml:ms.length=44) (nb:pb≠l∧pb≠px) (nq:q≠l∧q≠px):∀ (m i:Nat) (X:List C) (ts:Zx) (h:Go.Ev.H),i+m=11→h.get l=some (Nh lts .ready d)→h.get px=some (.row 16 [X] false)→X.length=16→h.get pb=some (.row 1 [[.slice q 0 44 1]] false)→h.get q=some (.row 1 (tlL ms) false) →
  Zh ts 0=.w (.c (.yield l))→Zh ts 1=.w (.c (.ptr pb 0))→Zh ts 3=.w (.c (.int .i64 ((4 * i:Nat):Int))) →
  Ye 25 none (q151 [1,1,2]) [] ts h fun x ds' _ h'=>x=.ret∧ds'=[]∧h'.next=h.next∧h'.get l=some (Nh lts .ready d)∧h'.get px=some (.row 16 [Zqv X (4+i) (Tt ms (4 * i) m)] false)∧∀ k,k≠l→k≠px→h'.get k=h.get k:=by
 intro m
 induction m with
 | zero =>
  intro i X ts h hi hl hx xl hb hq e0 e1 e3
  obtain rfl:i=11:=by omega
  have c1:=Z8j Hh h q
  iterate 4 (first|apply Zk|apply Yt|apply Je)
  have Jf:=Uq @e0 @e1 @e3 @hb
  iterate 5 (first|apply Zk|apply Z0|refine Goes.Zi Yq ?_|refine Zq Hh (Zp Za c1) Yq ?_)
  exact⟨rfl,rfl,rfl,hl,hx,fun _ _ _=>rfl⟩
 | succ m ih =>
  intro i X ts h hi hl hx xl hb hq e0 e1 e3
  have c1:=Z9g Hh ml hq (a:=4 * i) (by omega)
  have gW:Tt ms (4 * i) (m+1)=Yk ms (4 * i) :: Tt ms (4 * (i+1)) m:=rfl
  rw[gW]
  obtain⟨v,hv⟩:∃ v,Yk ms (4 * i)=v:=⟨_,rfl⟩
  rw[hv] at c1 ⊢
  have r:=rnd i v X h (by omega) hl hx xl
  obtain⟨h2,eh⟩:∃ h2,((h.put l (Nh lts .busy d)).put px (.row 16 [X.set (4+i) (.int .u32 (v:Int))] false)).put l (Nh lts .ready d)=h2:=⟨_,rfl⟩
  rw[eh] at r
  have n2:h2.next=h.next:=by rw[←eh]; rfl
  have l2:h2.get l=some (Nh lts .ready d):=by rw[←eh,Zz]
  have x2:h2.get px=some (.row 16 [X.set (4+i) (.int .u32 (v:Int))] false):=by rw[←eh,Ze (Ne.symm nl),Zz]
  have k2:∀ k,k≠l→k≠px→h2.get k=h.get k:=fun k k1 k2=>by rw[←eh,Ze k1,Ze k2,Ze k1]
  clear eh
  have n4:((4 * i:Nat):Int)+4=((4 * (i+1):Nat):Int):=by omega
  iterate 4 (first|apply Zk|apply Yt|apply Je)
  have Jf:=M8 @e0 @e1 @e3 @hb @hl @r @n4
  iterate 2 (first|apply Zk|refine Zq Hh (Zp Za c1) Yq ?_)
  iterate 4 (first|apply Zw|refine Goes.Zi Yq ?_|refine Zq Hh S Yq ?_)
  show Ye 25 none (q151 [1,1,2]) _ _ _ _
  refine (ih (i+1) _ _ h2 (by omega) l2 x2 (by rw[List.length_set]; exact xl) ((k2 _ nb.1 nb.2).trans hb) ((k2 _ nq.1 nq.2).trans hq) ?_ ?_ ?_).mono ?_
  ·simp (decide:=true) only [Zf,reduceIte,e0]
  ·simp (decide:=true) only [Zf,reduceIte,e1]
  ·simp (decide:=true) only [Zf,reduceIte]<;>rfl
  rintro x ds' ts2 h3 ⟨rfl,rfl,z1,z2,z3,z4⟩
  exact⟨rfl,rfl,z1.trans n2,z2,z3,fun k k1 k3=>(z4 k k1 k3).trans (k2 k k1 k3)⟩
theorem Z4b {h:Go.Ev.H} {X:List C} (e7:Zh lts 7=.w (.c (.ptr px 0))) (nl:l≠px) (ml:ms.length=44) (nb:pb≠l∧pb≠px) (nq:q≠l∧q≠px) (hl:h.get l=some (Nh lts .ready d)) (hx:h.get px=some (.row 16 [X] false)) (xl:X.length=16) (hb:h.get pb=some (.row 1 [[.slice q 0 44 1]] false)) (hq:h.get q=some (.row 1 (tlL ms) false)) :
  ∃ v h',Zg 151 [.c (.yield l),.c (.ptr pb 0)] h v h'∧h'.next=h.next∧h'.get l=some (Nh lts .ready d)∧h'.get px=some (.row 16 [Zqv X 4 (Tt ms 0 11)] false)∧∀ k,k≠l→k≠px→h'.get k=h.get k:=by
 obtain⟨E,S,g⟩:=Zwc Hh l px
 have rnd:=fun i v X h ii hl hx xl=>g lts d i v X h nl e7 ii hl hx xl
 refine Yg Hh Tryz.f151 ?_
 iterate 8 (first|apply Zk|apply Zw|apply Yt|refine Goes.Zi Zc ?_|refine Zq Hh Za Zc ?_)
 refine (Zwg Hh S e7 nl rnd ml nb nq 11 0 X _ h (by omega) hl hx xl hb hq ?_ ?_ ?_).mono ?_
 ·simp (decide:=true) only [Zf,reduceIte,Oj,List.getElem?_cons_zero]
 ·simp (decide:=true) only [Zf,reduceIte,Oj,List.getElem?_cons_succ,List.getElem?_cons_zero]
 ·simp (decide:=true) only [Zf,reduceIte]<;>rfl
 rintro x ds' ts2 h3 ⟨rfl,rfl,z1,z2,z3,z4⟩
 exact⟨_,_,Zc,z1,z2,z3,z4⟩
theorem getLoop {ts:Zx} {h:Go.Ev.H} {X:List C} (e7:Zh ts 7=.w (.c (.ptr px 0))) (e61:Zh ts 61=.w (.c (.fn 151 [] [some (pb,0)]))) (ml:ms.length=44) (hx:h.get px=some (.row 16 [X] false)) (xl:X.length=16) (hb:h.get pb=some (.row 1 [[.slice q 0 44 1]] false)) (hq:h.get q=some (.row 1 (tlL ms) false)) (lx:px<h.next) (lb:pb<h.next) (lq:q<h.next) (nb:pb≠px) (nq:q≠px) :
  Ye 80 none (q40 [1,1,1,1,1,1,1,1,1,1,0,1,2]) [] ts h fun x ds' ts' h'=>x=.normal∧ts'=ts∧ds'=[h.next]∧h'.next=h.next+1+1∧h'.get h.next=some .defers∧h'.get px=some (.row 16 [Zqv X 4 (Tt ms 0 11)] false)∧∀ m,m<h.next→m≠px→h'.get m=h.get m:=by
 have g0:∀ (o:O) m,m<h.next→((h.new .defers).new o).get m=h.get m:=fun o m hm=>by rw[Z8 (by rw[H.Zb]; omega),Z8 (by omega)]
 have gd:∀ o:O,((h.new .defers).new o).get h.next=some .defers:=fun o=>by rw[Z8 (by rw[H.Zb]; omega),U8]
 rw[Zdd]
 refine Goes.Zbq fits Hh (f:=151) (first:=[]) (caps:=[some (pb,0)]) (by simp only[Z6,Y2,e61,asC]) (exE (Z4b Hh (l:=h.next+1) (px:=px) (pb:=pb) (q:=q) (d:=h.next) (lts:=ts) (ms:=ms) (X:=X) e7 (by omega) ml ⟨by omega,nb⟩ ⟨by omega,nq⟩ (by rw[Jv (by simp only[H.Zb]<;>omega)]; rfl) (by rw[g0 _ _ lx]; exact hx) xl (by rw[g0 _ _ lb]; exact hb) (by rw[g0 _ _ lq]; exact hq)) ?_)
 rintro v h3 ⟨w0,w1,w2,w3⟩
 refine⟨_,_,_,_,_,_,_,_,w1,by simp,?_⟩
 show _∧_∧_
 refine⟨rfl,rfl,rfl,?_,?_,?_,fun m hm hne=>?_⟩
 ·rw[H.Zd,w0]; rfl
 ·rw[Ze (by omega),w3 _ (by omega) (by omega),gd]
 ·rw[Ze (by omega),w2]
 ·rw[Ze (by omega),w3 _ (by omega) hne,g0 _ _ hm]
end
end
section
variable (Hh:Hearts K Tryz.prog)
include Hh
theorem Z6q {ns:List Nat} {p:Nat} (nl:ns.length=256) (pc:p=0∨p=64∨p=128∨p=192) (h:Go.Ev.H):Zg 40 [.g (pgL ns),.c (.int .i64 (p:Int))] h (.tup [.g (Rv ns p).1,.c (.int .i64 (Rv ns p).2)]) h:=by
 have pl:p+64≤256:=by omega
 have pd:decide ((p:Int)=0∨(p:Int)=64∨(p:Int)=128∨(p:Int)=192)=true:=decide_eq_true (by omega)
 have p1:(p:Int)+64=((p+64:Nat):Int):=rfl
 have xl:(pgL ns).length=256:=by rw[Jy,nl]
 have r1:read1 256 [pgL ns] (p+1)=some (.int .u8 ((atN ns (p+1):Nat):Int)):=Zpm ⟨by omega,by omega⟩
 have r0:read1 256 [pgL ns] p=some (.int .u8 ((atN ns p:Nat):Int)):=Zpm ⟨by omega,by omega⟩
 by_cases b0:atN ns (p+1)=0
 ·rw[b0] at r1
  cases zz:Bb ns (p+60) 4 with
  | false =>
   have dd:Rv ns p=(ino0,70):=by unfold Rv; rw[b0,zz]; rfl
   rw[dd]
   refine Gt rfl ?_
   refine Yg Hh Tryz.f40 ?_
   have Jf:=Yu @pd @p1 @xl @r1 @zz @Nat.add_zero @Nat.zero_add @Nat.mul_one @Nat.add_sub_cancel_left
   iterate 16 (first|apply Zk|apply Zw|apply Z0|refine Goes.Zi Zf6 ?_|refine Zq Hh (EY (EY Za (Ta Hh)) (Q9 Hh)) Zf6 ?_)
   refine⟨_,_,Zsu,rfl,fun m hm=>by exact Yc⟩
  | true =>
   have dd:Rv ns p=bif Zjp ns p then (Zna ns p,0) else (ino0,70):=by
    unfold Rv
    rw[b0,zz]
    rfl
   rw[dd]
   have hi:=fun h=>Zmv Hh (atN ns p:Int) (Oi ns (p+2):Int) (Yk ns (p+4):Int) (Yk ns (p+8):Int) (Yk ns (p+12):Int) (Yk ns (p+16):Int) (Yk ns (p+20):Int) (Yk ns (p+24):Int) (Yk ns (p+28):Int) (Yk ns (p+32):Int) (Yk ns (p+36):Int) (Yk ns (p+40):Int) (Yk ns (p+44):Int) (Yk ns (p+48):Int) (Yk ns (p+52):Int) (Yk ns (p+56):Int) h
   change ∀ h,Zg 97 [.g (Zna ns p)] h (.w (.c (.bool (Zjp ns p)))) h at hi
   have gw:Tt ((ns.drop (p+12)).take 44) 0 11=[Yk ns (p+12),Yk ns (p+16),Yk ns (p+20),Yk ns (p+24),Yk ns (p+28),Yk ns (p+32),Yk ns (p+36),Yk ns (p+40),Yk ns (p+44),Yk ns (p+48),Yk ns (p+52)]:=by
    rw[Zor (by omega)]
    simp only[Tt,Nat.add_assoc,Nat.reduceAdd,Nat.add_zero]
   have g2:=Znn ns (p+2)
   have g4:=Zn2 ns (p+4)
   have g8:=Zn2 ns (p+8)
   have ml:((ns.drop (p+12)).take 44).length=44:=by rw[List.length_take,List.length_drop]; omega
   obtain⟨l2,e2⟩:∃ x,Oi ns (p+2)=x:=⟨_,rfl⟩
   obtain⟨l4,e4⟩:∃ x,Yk ns (p+4)=x:=⟨_,rfl⟩
   obtain⟨l8,e8⟩:∃ x,Yk ns (p+8)=x:=⟨_,rfl⟩
   obtain⟨kk,ek⟩:∃ x,atN ns p=x:=⟨_,rfl⟩
   obtain⟨nx,en⟩:∃ x,Yk ns (p+56)=x:=⟨_,rfl⟩
   have hC:((Zqv [.int .u8 kk,.int .i64 l2,.int .u32 l4,.int .i64 l8,.int .u32 0,.int .u32 0,.int .u32 0,.int .u32 0,.int .u32 0,.int .u32 0,.int .u32 0,.int .u32 0,.int .u32 0,.int .u32 0,.int .u32 0,.int .u32 0] 4 (Tt ((ns.drop (p+12)).take 44) 0 11)).set 15 (.int .u32 nx))=Zna ns p:=by
    rw[gw]
    unfold Zna
    rw[e2,e4,e8,ek,en]
    rfl
   have Yl:=Zqx (Tt ((ns.drop (p+12)).take 44) 0 11) [.int .u8 kk,.int .i64 l2,.int .u32 l4,.int .i64 l8,.int .u32 0,.int .u32 0,.int .u32 0,.int .u32 0,.int .u32 0,.int .u32 0,.int .u32 0,.int .u32 0,.int .u32 0,.int .u32 0,.int .u32 0,.int .u32 0] 4
   have dl:(Zna ns p).length=16:=rfl
   rw[e2] at g2
   rw[e4] at g4
   rw[e8] at g8
   rw[ek] at r0
   obtain⟨D,eD⟩:∃ D,Zna ns p=D:=⟨_,rfl⟩
   have df:D.all C.flat=true:=by rw[←eD]; rfl
   obtain⟨v,h',cc,ev,hk⟩:∃ v h',Zg 40 [.g (pgL ns),.c (.int .i64 (p:Int))] h v h'∧v=.tup [.g (bif Zjp ns p then (D,(0:Int)) else (ino0,70)).1,.c (.int .i64 (bif Zjp ns p then (D,(0:Int)) else (ino0,70)).2)]∧∀ m,m<h.next→h'.get m=h.get m:=by
    rw[eD] at hi hC dl
    refine Yg Hh Tryz.f40 ?_
    have Jf:=U1 @pd @p1 @xl @r1 (Yu @r0 @zz @e2 @e4 @e8 @Nat.add_zero @Nat.zero_add @Nat.mul_one @Nat.add_sub_cancel_left)
    iterate 28 (first|apply Zk|apply Zw|refine Goes.Zi Zny ?_|refine Zq Hh (EY (EY (EY (EY Za (Ta Hh)) (Q9 Hh)) (Zks Hh)) (Lh Hh)) Zny ?_)
    refine Uc fun hA eA=>?_
    have nA:hA.next=h.next+1+1+1:=by rw[eA]; simp only[H.Zd,H.Zb]
    have kA:∀ m,m<h.next→hA.get m=h.get m:=fun m hm=>by rw[eA]; exact Yc
    have bA:hA.get h.next=some (.row 256 [pgL ns] false):=by rw[eA]; exact Zj
    have cA:hA.get (h.next+1)=some (.row 16 [ino0] false):=by rw[eA]; exact Zc
    have xA:hA.get (h.next+1+1)=some (.row 16 [[.int .u8 kk,.int .i64 l2,.int .u32 l4,.int .i64 l8,.int .u32 0,.int .u32 0,.int .u32 0,.int .u32 0,.int .u32 0,.int .u32 0,.int .u32 0,.int .u32 0,.int .u32 0,.int .u32 0,.int .u32 0,.int .u32 0]] false):=by rw[eA]; exact Z9y
    clear eA
    have c12:=Z9a Hh nl bA (off:=p+12) (by omega)
    have Jf:=Jb Jf @nA @bA
    iterate 2 (first|apply Yt|refine Zq Hh (Zp Za c12) Zny ?_)
    refine Uc fun hB eB=>?_
    have nB:hB.next=h.next+1+1+1+1+1:=by rw[eB]; simp only[H.Zd,H.Zb,nA]
    have kB:∀ m,m<hA.next→hB.get m=hA.get m:=fun m hm=>by rw[eB]; exact Yc
    have qB:hB.get (h.next+1+1+1)=some (.row 1 (tlL ((ns.drop (p+12)).take 44)) false):=by rw[eB]; exact Zj
    have pB:hB.get (h.next+1+1+1+1)=some (.row 1 [[.slice (h.next+1+1+1) 0 44 1]] false):=by rw[eB]; exact Zj
    clear eB
    refine (getLoop Hh (h:=hB) (px:=h.next+1+1) (pb:=h.next+1+1+1+1) (q:=h.next+1+1+1) ?_ ?_ ml ((kB _ (by omega)).trans xA) rfl pB qB (by omega) (by omega) (by omega) (by omega) (by omega)).mono ?_
    ·simp (decide:=true) only [Zf,reduceIte,nA]
    ·simp (decide:=true) only [Zf,reduceIte,nA]
    rintro x ds' ts' hD ⟨rfl,rfl,rfl,nD,gd,xD,kD⟩
    rw[nB] at gd nD
    have bD:hD.get h.next=some (.row 256 [pgL ns] false):=(kD _ (by omega) (by omega)).trans ((kB _ (by omega)).trans bA)
    have cD:hD.get (h.next+1)=some (.row 16 [ino0] false):=(kD _ (by omega) (by omega)).trans ((kB _ (by omega)).trans cA)
    have kE:∀ m,m<h.next→hD.get m=h.get m:=fun m hm=>(kD _ (by omega) (by omega)).trans ((kB _ (by omega)).trans (kA m hm))
    obtain⟨Y,eY⟩:∃ Y,Zqv [.int .u8 kk,.int .i64 l2,.int .u32 l4,.int .i64 l8,.int .u32 0,.int .u32 0,.int .u32 0,.int .u32 0,.int .u32 0,.int .u32 0,.int .u32 0,.int .u32 0,.int .u32 0,.int .u32 0,.int .u32 0,.int .u32 0] 4 (Tt ((ns.drop (p+12)).take 44) 0 11)=Y:=⟨_,rfl⟩
    rw[eY] at xD hC Yl
    have w15:=wrC Yl (j:=15) (by omega) (.int .u32 nx)
    rw[hC] at w15
    cases mM:Zjp ns p with
    | false =>
     rw[mM] at hi
     have Jf:=Yu @nB @nD @gd @xD @bD @cD @en @w15 @dl
     iterate 4 (first|apply Zk|refine Zq Hh (EY Za (Lh Hh)) Z5 ?_)
     iterate 5 (first|apply Zk|apply Z0|refine Goes.Zi Z5 ?_|refine Zq Hh (Yp Za hi) Z5 ?_)
     refine⟨_,_,Z5,rfl,fun m hm=>?_⟩
     refine Eq.trans ?_ (kE m hm); exact Yc
    | true =>
     rw[mM] at hi
     have wI:Z4 16 [ino0] 0 D=some [D]:=Su (by have:=Zpa; omega)
     have Jf:=Yy @wI (Yu @nB @nD @gd @xD @bD @cD @en @w15 @dl)
     iterate 4 (first|apply Zk|refine Zq Hh (EY Za (Lh Hh)) Z5 ?_)
     iterate 6 (first|apply Zk|apply Zw|apply Z0|refine Goes.Zi Z5 ?_|refine Zq Hh (Yp Za hi) Z5 ?_)
     refine⟨_,_,Z5,rfl,fun m hm=>?_⟩
     refine Eq.trans ?_ (kE m hm); exact Yc
   rw[eD,←ev]
   refine cc.quiet ?_ hk
   rw[ev]
   cases Zjp ns p with
   | false=>rfl
   | true=>exact show (D.all C.flat&&(true&&true))=true by rw[df]; rfl
 ·have bn:(((atN ns (p+1):Nat):Int) != 0)=true:=by rw[bne,beq_eq_false_iff_ne.2 (by omega)]; rfl
  have bb:Nat.beq (atN ns (p+1)) 0=false:=by
   cases q:Nat.beq (atN ns (p+1)) 0 with
   | false=>rfl
   | true=>exact absurd (Nat.eq_of_beq_eq_true q) b0
  have dd:Rv ns p=(ino0,70):=by unfold Rv; rw[bb]; rfl
  rw[dd]
  refine Gt rfl ?_
  refine Yg Hh Tryz.f40 ?_
  have Jf:=Yu @pd @p1 @xl @r1 @bn @Nat.add_zero @Nat.zero_add @Nat.mul_one @Nat.add_sub_cancel_left
  iterate 16 (first|apply Zk|apply Zw|apply Z0|refine Goes.Zi Zf6 ?_|refine Zq Hh (EY (EY Za (Ta Hh)) (Q9 Hh)) Zf6 ?_)
  refine⟨_,_,Zsu,rfl,fun m hm=>by exact Yc⟩
end
def Y1 (b c e j:Nat):Nat:=2+e+j / c * b+2+j % c / 4
def D9 (c j:Nat):Nat:=j % c % 4 * 64
def gI (a b c e:Nat) (U:Nat→List Nat) (z:Int):List C × Int:=if 1≤z∧z≤((a * c:Nat):Int) then Rv (U (Y1 b c e (z.toNat - 1))) (D9 c (z.toNat - 1)) else (ino0,2)
theorem Ra (c j:Nat):D9 c j=0∨D9 c j=64∨D9 c j=128∨D9 c j=192:=by unfold D9; omega
theorem Z22 {a b c e i j:Nat} (F:Fine a b c e) (ne:i≠j) (h:Y1 b c e i=Y1 b c e j):D9 c i+64≤D9 c j∨D9 c j+64≤D9 c i:=by
 obtain⟨g1,g2,g3,g4,g5,g6,g7,g8,g9,g10,g11⟩:=F
 have t1:i % c<c:=Nat.mod_lt _ (by omega)
 have t2:j % c<c:=Nat.mod_lt _ (by omega)
 have d1:=Nat.div_add_mod i c
 have d2:=Nat.div_add_mod j c
 unfold Y1 at h
 unfold D9
 have k:i / c=j / c:=by
  rcases Nat.lt_trichotomy (i / c) (j / c) with q|q|q
  ·have:=Nat.mul_le_mul_right b (Nat.succ_le_of_lt q)
   rw[Nat.succ_mul] at this
   omega
  ·exact q
  ·have:=Nat.mul_le_mul_right b (Nat.succ_le_of_lt q)
   rw[Nat.succ_mul] at this
   omega
 rw[k] at h d1
 have:i % c≠j % c:=fun q=>ne (d1.symm.trans (by rw[q]; exact d2))
 omega
theorem ty106:K.types.get 106=some ti106:=by kernel_rfl
theorem sz106:ti106.size=1:=by rfl
theorem ag106:ti106.agg=false:=by rfl
theorem de106:ti106.desc=(.pointer 99):=by rfl
theorem ze106:ti106.zero=(.c (.pnil)):=by rfl
theorem by106:ti106.bytes=8:=by rfl
theorem ty204:K.types.get 204=some ti204:=by kernel_rfl
theorem sz204:ti204.size=1:=by rfl
theorem ag204:ti204.agg=false:=by rfl
theorem de204:ti204.desc=(.pointer 39):=by rfl
theorem ze204:ti204.zero=(.c (.pnil)):=by rfl
theorem by204:ti204.bytes=8:=by rfl
attribute [go_sem] ty106 sz106 ag106 de106 ze106 by106 ty204 sz204 ag204 de204 ze204 by204
noncomputable def q64 (p:List Nat):Code:=piece p (Uh Tryz.f64)
theorem Zjh:q64 [1,1,1,1,1,1,0,1,2]=.rangeFunc (.tmp 37) #[38,39] (q64 [1,1,1,1,1,1,0,1,2,5]) (q64 [1,1,1,1,1,1,0,1,2,6]):=by kernel_rfl
theorem Zi8:q64 [1,1,1,1,1,1,0,1,2,5]=.seq (q64 [1,1,1,1,1,1,0,1,2,5,0]) (q64 [1,1,1,1,1,1,0,1,2,5,1]):=by kernel_rfl
theorem Ziz:q64 [1,1,1,1,1,1,0,1,2,6]=.block 2 (q64 [1,1,1,1,1,1,0,1,2,6,2]):=by kernel_rfl
noncomputable def q162 (p:List Nat):Code:=piece p (Uh Tryz.f162)
theorem rs64:Tryz.f64.results.toList=[.tmp 6]:=rfl
theorem rs121:Tryz.f121.results.toList=[.tmp 2]:=rfl
theorem rs162:Tryz.f162.results.toList=[]:=rfl
attribute [go_sem] rs64 rs121 rs162
section
variable (Hh:Hearts K Tryz.prog)
include Hh
section
variable {l p p7 pm px pw d:Nat} {lts:Zx}
noncomputable def Ni (lts:Zx) (st:LoopState) (d:Nat):O:=.loop lts 44 [38,39] (q64 [1,1,1,1,1,1,0,1,2,5]) (q64 [1,1,1,1,1,1,0,1,2,6]) st none d
theorem ptA (l:Nat) (ts:Zx) (h:Go.Ev.H) {t w:C} (e1:Zh ts 38=.w (.c t)) (e2:Zh ts 39=.w (.c w)):Ye 44 (some l) (q64 [1,1,1,1,1,1,0,1,2,5]) [] ts h fun x ds' ts' h'=>x=.normal∧ds'=[]∧h'=h∧(∀ s,s≤7→Zh ts' s=Zh ts s)∧Zh ts' 8=Zh ts 38∧Zh ts' 9=Zh ts 39:=by
 have Jf:=Yy @e1 @e2
 iterate 3 (first|apply Zk|refine Zq Hh Za Zj ?_)
 refine⟨rfl,rfl,rfl,fun s hs=>?_,?_,?_⟩
 ·simp (decide:=true) only [Yz hs]
 ·rw[e1]; exact Zc
 ·rw[e2]; exact Zc
theorem ptB (l:Nat) {ts:Zx} {h:Go.Ev.H} {a v:Nat} {ns:List Nat} (aa:a+4≤64) (vv:v<4294967296) (pl:p+64≤256) (e7:Zh ts 7=.w (.c (.ptr p7 0))) (e8:Zh ts 8=.w (.c (.int .i64 (a:Int)))) (e9:Zh ts 9=.w (.c (.int .u32 (v:Int)))) (h7:h.get p7=some (.row 1 [[.slice pm p 64 1]] false)) (hx:h.get pm=some (.row 256 [pgL ns] false)) (nl:ns.length=256) :
  Ye 44 (some l) (q64 [1,1,1,1,1,1,0,1,2,6]) [] ts h fun x _ _ h'=>x=.normal∧h'=h.put pm (.row 256 [pgL (Jq ns (p+a) v)] false):=by
 have xl:(pgL ns).length=256:=by rw[Jy,nl]
 have Jf:=Sy @e7 @e8 @e9 @h7 @hx @xl
 iterate 2 (first|apply Yt|refine Zq Hh (EY Za (Zdz Hh)) Yq ?_)
 exact⟨rfl,rfl⟩
theorem Zwf (l p7 pm:Nat) (pl:p+64≤256):∃ E,Sound K Tryz.prog E∧∀ (lts:Zx) (d a v:Nat) (ns:List Nat) (h:Go.Ev.H),l≠pm→l≠p7→Zh lts 7=.w (.c (.ptr p7 0))→a+4≤64→v<4294967296→h.get l=some (Ni lts .ready d)→h.get p7=some (.row 1 [[.slice pm p 64 1]] false)→h.get pm=some (.row 256 [pgL ns] false)→ns.length=256 →
  Jz E l (some [.c (.int .i64 (a:Int)),.c (.int .u32 (v:Int))]) h (some (Ni lts .ready d))=some (.val (.w (.c (.bool true))) (((h.put l (Ni lts .busy d)).put pm (.row 256 [pgL (Jq ns (p+a) v)] false)).put l (Ni lts .ready d))):=by
 have ne:(q64 [1,1,1,1,1,1,0,1,2,5])≠(q64 [1,1,1,1,1,1,0,1,2,6]):=fun e=>by
  rw[Ziz,Zi8] at e
  cases e
 obtain⟨E,S,g⟩:=rounds (K:=K) (P:=Tryz.prog) (n:=44) (l:=l) ne
  (PA:=fun ts _=>∃ t w,Zh ts 38=.w (.c t)∧Zh ts 39=.w (.c w))
  (QA:=fun ts ts'=>(∀ s,s≤7→Zh ts' s=Zh ts s)∧Zh ts' 8=Zh ts 38∧Zh ts' 9=Zh ts 39)
  (PB:=fun ts h=>∃ (a v:Nat) (ns:List Nat),a+4≤64∧v<4294967296∧Zh ts 7=.w (.c (.ptr p7 0))∧Zh ts 8=.w (.c (.int .i64 (a:Int)))∧Zh ts 9=.w (.c (.int .u32 (v:Int)))∧h.get p7=some (.row 1 [[.slice pm p 64 1]] false)∧h.get pm=some (.row 256 [pgL ns] false)∧ns.length=256)
  (QB:=fun ts h h'=>∀ (a v:Nat) (ns:List Nat),Zh ts 8=.w (.c (.int .i64 (a:Int)))→Zh ts 9=.w (.c (.int .u32 (v:Int)))→h.get pm=some (.row 256 [pgL ns] false)→h'=h.put pm (.row 256 [pgL (Jq ns (p+a) v)] false))
  (fun ts h ⟨t,w,e1,e2⟩=>ptA Hh l ts h e1 e2)
  (fun ts h ⟨a,v,ns,aa,vv,e7,e8,e9,h7,hx,nl⟩=>(ptB Hh l aa vv pl e7 e8 e9 h7 hx nl).mono fun x _ _ h' ⟨x1,x2⟩=>⟨x1,fun a' v' ns' f1 f2 f3=>by
   rw[e8] at f1
   rw[e9] at f2
   rw[hx] at f3
   have a1:(a:Int)=(a':Int):=by injection f1 with f1; injection f1 with f1; injection f1
   have a2:(v:Int)=(v':Int):=by injection f2 with f2; injection f2 with f2; injection f2
   obtain rfl:a=a':=by omega
   obtain rfl:v=v':=by omega
   have a3:pgL ns=pgL ns':=by injection f3 with f3; injection f3 with _ f3; injection f3
   rw[x2,←Vx ns,←Vx ns',←Od,←Od,a3]⟩)
 refine⟨E,S,fun lts d a v ns h nl np e7 aa vv hl h7 hx xl=>?_⟩
 have z1:Zh ((lts.set 38 (.w (.c (.int .i64 (a:Int))))).set 39 (.w (.c (.int .u32 (v:Int))))) 38=.w (.c (.int .i64 (a:Int))):=by simp (decide:=true) only [Zf,reduceIte]
 have z2:Zh ((lts.set 38 (.w (.c (.int .i64 (a:Int))))).set 39 (.w (.c (.int .u32 (v:Int))))) 39=.w (.c (.int .u32 (v:Int))):=by simp (decide:=true) only [Zf,reduceIte]
 have z7:Zh ((lts.set 38 (.w (.c (.int .i64 (a:Int))))).set 39 (.w (.c (.int .u32 (v:Int))))) 7=.w (.c (.ptr p7 0)):=by simp (decide:=true) only [Zf,reduceIte,e7]
 have hx':(h.put l (Ni lts .busy d)).get pm=some (.row 256 [pgL ns] false):=by rw[Ze (Ne.symm nl)]; exact hx
 have h7':(h.put l (Ni lts .busy d)).get p7=some (.row 1 [[.slice pm p 64 1]] false):=by rw[Ze (Ne.symm np)]; exact h7
 obtain⟨ts',h',⟨a1,a2,a3⟩,b,r⟩:=g [.c (.int .i64 (a:Int)),.c (.int .u32 (v:Int))] h lts _ [38,39] d hl rfl ⟨_,_,z1,z2⟩ fun ts' ⟨a1,a2,a3⟩=>⟨a,v,ns,aa,vv,(a1 7 (by decide)).trans z7,a2.trans z1,a3.trans z2,h7',hx',xl⟩
 have b:=b a v ns (a2.trans z1) (a3.trans z2) hx'
 subst b
 exact r (by rw[Ze nl]; exact Zz ..)
def Rnd (E:Task→Option Out) (l p7 pm p d:Nat) (lts:Zx):Prop:=∀ (a v:Nat) (ns:List Nat) (h:Go.Ev.H),a+4≤64→v<4294967296→h.get l=some (Ni lts .ready d)→h.get p7=some (.row 1 [[.slice pm p 64 1]] false)→h.get pm=some (.row 256 [pgL ns] false)→ns.length=256 →
  ∃ h',Jz E l (some [.c (.int .i64 (a:Int)),.c (.int .u32 (v:Int))]) h (some (Ni lts .ready d))=some (.val (.w (.c (.bool true))) h')∧h'.next=h.next∧h'.get l=some (Ni lts .ready d)∧h'.get pm=some (.row 256 [pgL (Jq ns (p+a) v)] false)∧∀ k,k≠l→k≠pm→h'.get k=h.get k
theorem Yab (l p7 pm:Nat) (pl:p+64≤256) (nl:l≠pm) (np:l≠p7) (e7:Zh lts 7=.w (.c (.ptr p7 0))) (d:Nat):∃ E,Sound K Tryz.prog E∧Rnd E l p7 pm p d lts:=by
 obtain⟨E,S,g⟩:=Zwf Hh l p7 pm pl
 refine⟨E,S,fun a v ns h aa vv hl h7 hx xl=>⟨_,g lts d a v ns h nl np e7 aa vv hl h7 hx xl,rfl,Zz ..,?_,fun k k1 k2=>?_⟩⟩
 ·rw[Ze (Ne.symm nl),Zz]
 ·rw[Ze k1,Ze k2,Ze k1]
theorem Zt8 {E:Task→Option Out} (S:Sound K Tryz.prog E) (R:Rnd E l p7 pm p d lts) (n7:p7≠l∧p7≠pm) {ps:List Nat} (pl:ps.length=11) (pb:∀ v∈ps,v<4294967296):∀ (vs:List Nat) (i:Nat) (ns:List Nat) (ts:Zx) (h:Go.Ev.H),i+vs.length=11→ps.drop i=vs→h.get l=some (Ni lts .ready d)→h.get p7=some (.row 1 [[.slice pm p 64 1]] false)→h.get pm=some (.row 256 [pgL ns] false)→ns.length=256 →
  Zh ts 0=.w (.c (.yield l))→Zh ts 1=.w (.c (.ptr pw 0))→Zh ts 25=.w (.g (ps.map fun v:Nat=>C.int .u32 (v:Int)))→Zh ts 26=.w (.c (.int .i64 (i:Int))) →
  Ye 44 none (q162 [1,0,1,2]) [] ts h fun x ds' ts' h'=>x=.exit 0∧ds'=[]∧Zh ts' 0=.w (.c (.yield l))∧Zh ts' 1=.w (.c (.ptr pw 0))∧h'.next=h.next∧h'.get l=some (Ni lts .ready d)∧h'.get pm=some (.row 256 [pgL (Zhp ns (p+(12+4 * i)) vs)] false)∧∀ k,k≠l→k≠pm→h'.get k=h.get k:=by
 intro vs
 induction vs with
 | nil =>
  intro i ns ts h hi hv hl h7 hx xl e0 e1 e25 e26
  obtain rfl:i=11:=by simpa using hi
  have Jf:=Uq @e0 @e1 @e25 @e26
  iterate 6 (first|apply Zk|apply Ux|apply Je|refine Goes.Zi Zj ?_|refine Zq Hh Za Zj ?_)
  exact⟨rfl,rfl,by simp (decide:=true) only [Zf,reduceIte,e0],by simp (decide:=true) only [Zf,reduceIte,e1],rfl,hl,hx,fun _ _ _=>rfl⟩
 | cons v vs ih =>
  intro i ns ts h hi hv hl h7 hx xl e0 e1 e25 e26
  have hi':i<11:=by rw[List.length_cons] at hi; omega
  have iv:ps[i]? = some v:=by
   have:=congrArg (fun l=>l[0]?) hv
   simpa using this
  have vb:v<4294967296:=pb v (List.mem_of_getElem? iv)
  have hv':ps.drop (i+1)=vs:=by rw[←List.drop_drop,hv]; rfl
  have ix:(ps.map fun v:Nat=>C.int .u32 (v:Int))[i]? = some (.int .u32 (v:Int)):=by rw[List.getElem?_map,iv]; rfl
  have Ll:(ps.map fun v:Nat=>C.int .u32 (v:Int)).length=11:=by rw[List.length_map,pl]
  obtain⟨L,hL⟩:∃ L,(ps.map fun v:Nat=>C.int .u32 (v:Int))=L:=⟨_,rfl⟩
  simp only[hL] at ih
  rw[hL] at ix Ll e25
  obtain⟨h2,r,n2,l2,x2,k2⟩:=R (12+4 * i) v ns h (by omega) vb hl h7 hx xl
  have n32:(4:Int) * (i:Int)=((4 * i:Nat):Int):=rfl
  have n33:(12:Int)+((4 * i:Nat):Int)=((12+4 * i:Nat):Int):=rfl
  have n4:(i:Int)+1=((i+1:Nat):Int):=rfl
  iterate 11 (first|apply Zk|apply Zw|apply Yt|apply Je|((first|apply Goes.Zi|apply Goes.ops2 fits Hh Za); · simp (maxSteps:=9^6) +decide (disch:=first|omega|(simp only[lens]<;>omega)|decide) only [go_sem,Zn,Zm,simprocAttr,e0,e1,e25,e26,hl,r,n32,n33,n4,ix,Ll,Lu,Zlh]<;>rfl))
  iterate 4 (first|apply Zw|((first|apply Goes.Zi|apply Goes.ops2 fits Hh S); · simp (maxSteps:=9^6) +decide (disch:=first|omega|(simp only[lens]<;>omega)|decide) only [go_sem,Zn,Zm,simprocAttr,e0,e1,e25,e26,hl,r,n32,n33,n4,ix,Ll,Lu,Zlh]<;>rfl))
  show Ye 44 none (q162 [1,0,1,2]) _ _ _ _
  refine (ih (i+1) _ _ h2 (by rw[List.length_cons] at hi; omega) hv' l2 ((k2 _ n7.1 n7.2).trans h7) x2 (by rw[Yh]; exact xl) ?_ ?_ ?_ ?_).mono ?_
  ·simp (decide:=true) only [Zf,reduceIte,e0]
  ·simp (decide:=true) only [Zf,reduceIte,e1]
  ·simp (decide:=true) only [Zf,reduceIte,e25]
  ·simp (decide:=true) only [Zf,reduceIte]<;>rfl
  rintro x ds' ts2 h3 ⟨rfl,rfl,z0,z1,z2,z3,z4,z5⟩
  exact⟨rfl,rfl,z0,z1,z2.trans n2,z3,z4,fun k k1 k3=>(z5 k k1 k3).trans (k2 k k1 k3)⟩
theorem Z29 {E:Task→Option Out} (S:Sound K Tryz.prog E) (R:Rnd E l p7 pm p d lts) (n7:p7≠l∧p7≠pm) (nw:pw≠l∧pw≠pm) (nx':px≠l∧px≠pm) {k li g s p0 p1 p2 p3 p4 p5 p6 p7' p8 p9 p10 nx:Nat} (gb:g<4294967296) (sb:s<4294967296) (pb:∀ v∈[p0,p1,p2,p3,p4,p5,p6,p7',p8,p9,p10],v<4294967296) (nb:nx<4294967296) {ns:List Nat} {h:Go.Ev.H} (hl:h.get l=some (Ni lts .ready d)) (h7:h.get p7=some (.row 1 [[.slice pm p 64 1]] false)) (hx:h.get pm=some (.row 256 [pgL ns] false)) (xl:ns.length=256) (hw:h.get pw=some (.row 1 [[.ptr px 0]] false)) (hi:h.get px=some (.row 16 [Nc k li g s p0 p1 p2 p3 p4 p5 p6 p7' p8 p9 p10 nx] false)) :
  ∃ v h',Zg 162 [.c (.yield l),.c (.ptr pw 0)] h v h'∧h'.next=h.next∧h'.get l=some (Ni lts .ready d)∧h'.get pm=some (.row 256 [pgL (Jq (Zhp (Jq (Jq ns (p+4) g) (p+8) s) (p+12) [p0,p1,p2,p3,p4,p5,p6,p7',p8,p9,p10]) (p+56) nx)] false)∧∀ m,m≠l→m≠pm→h'.get m=h.get m:=by
 obtain⟨h1,r1,n1,l1,x1,k1⟩:=R 4 g ns h (by omega) gb hl h7 hx xl
 obtain⟨h2,r2,n2,l2,x2,k2⟩:=R 8 s _ h1 (by omega) sb l1 ((k1 _ n7.1 n7.2).trans h7) x1 (by rw[Yh]; exact xl)
 have w1:=(k1 _ nw.1 nw.2).trans hw
 have i1:=(k1 _ nx'.1 nx'.2).trans hi
 have w2:=(k2 _ nw.1 nw.2).trans w1
 have i2:=(k2 _ nx'.1 nx'.2).trans i1
 have h72:=(k2 _ n7.1 n7.2).trans ((k1 _ n7.1 n7.2).trans h7)
 have r1':Jz E l (some [.c (.int .i64 4),.c (.int .u32 (g:Int))]) h (some (Ni lts .ready d))=some (.val (.w (.c (.bool true))) h1):=r1
 have r2':Jz E l (some [.c (.int .i64 8),.c (.int .u32 (s:Int))]) h1 (some (Ni lts .ready d))=some (.val (.w (.c (.bool true))) h2):=r2
 refine Yg Hh Tryz.f162 ?_
 iterate 2 (apply Zk)
 iterate 7 (first|apply Zk|apply Zw|apply Yt|((first|apply Goes.Zi|apply Goes.ops2 fits Hh S); · simp (maxSteps:=9^6) +decide (disch:=first|omega|(simp only[lens]<;>omega)|decide) only [go_sem,Zn,Zm,simprocAttr,hl,hw,hi,Nc,r1',l1,w1,i1,r2',w2,i2,read1]<;>rfl))
 refine (Zt8 Hh (pw:=pw) S R n7 rfl pb _ 0 _ _ h2 rfl rfl l2 h72 x2 (by rw[Yh,Yh]; exact xl) ?_ ?_ ?_ ?_).mono ?_
 ·simp (decide:=true) only [Zf,reduceIte,Oj,List.getElem?_cons_zero]
 ·simp (decide:=true) only [Zf,reduceIte,Oj,List.getElem?_cons_succ,List.getElem?_cons_zero]
 ·simp (decide:=true) only [Zf,reduceIte]<;>rfl
 ·simp (decide:=true) only [Zf,reduceIte]<;>rfl
 rintro x ds' ts' h3 ⟨rfl,rfl,f0,f1,n3,l3,x3,k3⟩
 obtain⟨h4,r4,n4,l4,x4,k4⟩:=R 56 nx _ h3 (by omega) nb l3 ((k3 _ n7.1 n7.2).trans h72) x3 (by rw[Di,Yh,Yh]; exact xl)
 have w3:=(k3 _ nw.1 nw.2).trans w2
 have i3:=(k3 _ nx'.1 nx'.2).trans i2
 have r4':Jz E l (some [.c (.int .i64 56),.c (.int .u32 (nx:Int))]) h3 (some (Ni lts .ready d))=some (.val (.w (.c (.bool true))) h4):=r4
 (apply Goes.ops2 fits Hh S; · simp (maxSteps:=9^6) +decide (disch:=first|omega|(simp only[lens]<;>omega)|decide) only [go_sem,Zn,Zm,simprocAttr,f0,f1,l3,w3,i3,Nc,r4',read1]<;>rfl)
 exact⟨_,_,Zc,by rw[n4,n3,n2,n1],l4,x4,fun m m1 m2=>(k4 m m1 m2).trans ((k3 m m1 m2).trans ((k2 m m1 m2).trans (k1 m m1 m2)))⟩
theorem Z6v {ts:Zx} {h:Go.Ev.H} (pl:p+64≤256) {k li g s p0 p1 p2 p3 p4 p5 p6 p7' p8 p9 p10 nx:Nat} (gb:g<4294967296) (sb:s<4294967296) (pb:∀ v∈[p0,p1,p2,p3,p4,p5,p6,p7',p8,p9,p10],v<4294967296) (nb:nx<4294967296) {ns:List Nat} (h7:h.get p7=some (.row 1 [[.slice pm p 64 1]] false)) (hx:h.get pm=some (.row 256 [pgL ns] false)) (xl:ns.length=256) (hw:h.get pw=some (.row 1 [[.ptr px 0]] false)) (hi:h.get px=some (.row 16 [Nc k li g s p0 p1 p2 p3 p4 p5 p6 p7' p8 p9 p10 nx] false))
  (e7:Zh ts 7=.w (.c (.ptr p7 0))) (e37:Zh ts 37=.w (.c (.fn 162 [] [some (pw,0)]))) (l7:p7<h.next) (lm:pm<h.next) (lw:pw<h.next) (lx:px<h.next) (n7:p7≠pm) (nw:pw≠pm) (nxm:px≠pm) :
  Ye 44 none (q64 [1,1,1,1,1,1,0,1,2]) [] ts h fun x ds' ts' h'=>x=.normal∧ts'=ts∧ds'=[h.next]∧h'.next=h.next+1+1∧h'.get h.next=some .defers∧h'.get pm=some (.row 256 [pgL (Jq (Zhp (Jq (Jq ns (p+4) g) (p+8) s) (p+12) [p0,p1,p2,p3,p4,p5,p6,p7',p8,p9,p10]) (p+56) nx)] false)∧∀ m,m<h.next→m≠pm→h'.get m=h.get m:=by
 have g0:∀ (o:O) m,m<h.next→((h.new .defers).new o).get m=h.get m:=fun o m hm=>by rw[Z8 (by rw[H.Zb]; omega),Z8 (by omega)]
 have gd:∀ o:O,((h.new .defers).new o).get h.next=some .defers:=fun o=>by rw[Z8 (by rw[H.Zb]; omega),U8]
 obtain⟨E,S,R⟩:=Yab Hh (lts:=ts) (h.next+1) p7 pm pl (by omega) (by omega) e7 h.next
 rw[Zjh]
 refine Goes.Zbq fits Hh (f:=162) (first:=[]) (caps:=[some (pw,0)]) (by simp only[Z6,Y2,e37,asC]) (exE (Z29 Hh (px:=px) (pw:=pw) S R ⟨by omega,n7⟩ ⟨by omega,nw⟩ ⟨by omega,nxm⟩ gb sb pb nb (by rw[Jv (by simp only[H.Zb]<;>omega)]; rfl) (by rw[g0 _ _ l7]; exact h7) (by rw[g0 _ _ lm]; exact hx) xl (by rw[g0 _ _ lw]; exact hw) (by rw[g0 _ _ lx]; exact hi)) ?_)
 rintro v h3 ⟨w0,w1,w2,w3⟩
 refine⟨_,_,_,_,_,_,_,_,w1,by simp,?_⟩
 show _∧_∧_
 refine⟨rfl,rfl,rfl,?_,?_,?_,fun m hm hne=>?_⟩
 ·rw[H.Zd,w0]; rfl
 ·rw[Ze (by omega),w3 _ (by omega) (by omega),gd]
 ·rw[Ze (by omega),w2]
 ·rw[Ze (by omega),w3 _ (by omega) hne,g0 _ _ hm]
end
end
theorem Ycr {ns:List Nat} {p:Nat} (nl:ns.length=256) (pl:p+64≤256):Z4 256 [pgL ns] p (List.replicate 64 (.int .u8 0))=some [pgL (Zcj ns p)]:=by
 have e:List.replicate 64 (C.int .u8 0)=.int .u8 0 :: .int .u8 0 :: List.replicate 62 (.int .u8 0):=rfl
 have z:pgL (List.replicate 64 0)=List.replicate 64 (.int .u8 0):=rfl
 unfold Zcj
 rw[show pgL (ns.take p++(List.replicate 64 0++ns.drop (p+64)))=(pgL ns).take p++List.replicate 64 (.int .u8 0)++(pgL ns).drop (p+64) by rw[←z]; simp only[pgL,List.map_append,List.map_take,List.map_drop,List.append_assoc]]
 rw[e]
 simp only[Z4]
 rw[Nat.div_eq_of_lt (by omega),Nat.mod_eq_of_lt (by omega),List.getElem?_cons_zero]
 simp only[Jy,nl,List.length_cons,List.length_replicate]
 rw[Nj (by omega),cond_true]
 rfl
section
variable (Hh:Hearts K Tryz.prog)
include Hh
theorem Z67 (x:Nat) (h:Go.Ev.H):Zg 121 [.c (.ptr x 0)] h (.w (.c (.fn 162 [] [some (h.next,0)]))) (h.new (.row 1 [[.ptr x 0]] false)):=by
 refine fnG Hh Tryz.f121 ?_
 iterate 5 (first|apply Zk|apply Z0|refine Zq Hh Za Rw ?_)
 exact Rw
theorem Zug {ns:List Nat} {p:Nat} (nl:ns.length=256) (pc:p=0∨p=64∨p=128∨p=192) {k l g s p0 p1 p2 p3 p4 p5 p6 p7 p8 p9 p10 nx:Nat} (kb:k<256) (lb:l<65536) (gb:g<4294967296) (sb:s<4294967296) (pb:∀ v∈[p0,p1,p2,p3,p4,p5,p6,p7,p8,p9,p10],v<4294967296) (nb:nx<4294967296) (hm:Zif k l s p0 p1 p2 p3 p4 p5 p6 p7 p8 p9 p10 nx=true) {h:Go.Ev.H} {m:Nat} (hp:h.get m=some (.row 256 [pgL ns] false)) (lm:m<h.next) :
  ∃ h',Zg 64 [.c (.ptr m 0),.c (.int .i64 (p:Int)),.g (Nc k l g s p0 p1 p2 p3 p4 p5 p6 p7 p8 p9 p10 nx)] h (.w (.c (.int .i64 0))) h'∧h.next≤h'.next∧h'.get m=some (.row 256 [pgL (Ec ns p k l g s [p0,p1,p2,p3,p4,p5,p6,p7,p8,p9,p10] nx)] false)∧∀ j,j<h.next→j≠m→h'.get j=h.get j:=by
 have pl:p+64≤256:=by omega
 have pd:decide ((p:Int)=0∨(p:Int)=64∨(p:Int)=128∨(p:Int)=192)=true:=decide_eq_true (by omega)
 have p1':(p:Int)+64=((p+64:Nat):Int):=rfl
 have xl:(pgL ns).length=256:=by rw[Jy,nl]
 have rc:read1 256 [pgL ns] 255=some (.int .u8 ((atN ns 255:Nat):Int)):=Zpm ⟨by omega,by omega⟩
 have hi:=fun h=>Zmv Hh k l g s p0 p1 p2 p3 p4 p5 p6 p7 p8 p9 p10 nx h
 rw[hm] at hi
 change ∀ h,Zg 97 [.g (Nc k l g s p0 p1 p2 p3 p4 p5 p6 p7 p8 p9 p10 nx)] h (.w (.c (.bool true))) h at hi
 have cl:(Zcj ns p).length=256:=by rw[L8 (by omega),nl]
 have cw:=Ycr nl pl
 simp only[List.reduceReplicate] at cw
 have q7:∀ x:C,read1 1 [[x]] 0=some x:=fun _=>rfl
 obtain⟨w,hw⟩:∃ w,Nc k l g s p0 p1 p2 p3 p4 p5 p6 p7 p8 p9 p10 nx=w:=⟨_,rfl⟩
 have wl:w.length=16:=by rw[←hw]; rfl
 have rk:read1 16 [w] 0=some (.int .u8 (k:Int)):=by rw[←hw]; rfl
 have rl:read1 16 [w] 1=some (.int .i64 (l:Int)):=by rw[←hw]; rfl
 have wk:Jr .u8 (k:Int)=.int .u8 ((k % 256:Nat):Int):=wr8
 have ek:(C.int .u8 (k:Int))=.int .u8 ((k % 256:Nat):Int):=by rw[Nat.mod_eq_of_lt kb]
 have sk:Z4 256 [pgL (Zcj ns p)] p [.int .u8 (k:Int)]=some [pgL ((Zcj ns p).set p k)]:=by rw[ek]; exact Z6r ⟨by omega,by omega⟩
 have sl:((Zcj ns p).set p k).length=256:=by rw[List.length_set,cl]
 have p2l:(U6 ((Zcj ns p).set p k) (p+2) l).length=256:=by rw[Y0,sl]
 obtain⟨N,hN⟩:∃ N,(Zcj ns p).set p k=N:=⟨_,rfl⟩
 obtain⟨M,hM⟩:∃ M,U6 N (p+2) l=M:=⟨_,rfl⟩
 unfold Ec
 rw[hN] at sk sl p2l ⊢
 rw[hM] at p2l ⊢
 obtain⟨Z,hZ⟩:∃ Z,Zcj ns p=Z:=⟨_,rfl⟩
 rw[hZ] at sk cw cl
 have Zl:(pgL Z).length=256:=by rw[Jy,cl]
 rw[hw] at hi ⊢
 refine Ou ?_
 refine Yg Hh Tryz.f64 ?_
 iterate 11 (first|apply Zk|apply Yt|((first|apply Goes.Zi|apply Goes.ops2 fits Hh (EY Za (Ta Hh))); · simp (maxSteps:=9^6) +decide (disch:=first|omega|(simp only[lens]<;>omega)|decide) only [go_sem,Zm,simprocAttr,pd,p1',hp,xl,rc,wl,q7,cw,rk,rl,sk,sl,cl,Zl,hM,Yf,Oq,Du,bound,La,reaches,Zr,Ns,Zbl,X8,Nat.add_zero,Nat.zero_add,Nat.mul_one,Nat.add_sub_cancel_left]<;>rfl))
 iterate 10 (first|apply Zk|apply Zw|((first|apply Goes.Zi|apply Goes.ops2 fits Hh (Yp Za hi)); · simp (maxSteps:=9^6) +decide (disch:=first|omega|(simp only[lens]<;>omega)|decide) only [go_sem,Zm,simprocAttr,pd,p1',hp,xl,rc,wl,q7,cw,rk,rl,sk,sl,cl,Zl,hM,Yf,Oq,Du,bound,La,reaches,Zr,Ns,Zbl,X8,Nat.add_zero,Nat.zero_add,Nat.mul_one,Nat.add_sub_cancel_left]<;>rfl))
 iterate 3 (first|apply Zk|(apply Goes.ops2 fits Hh (EY Za (Zk8 Hh)); · simp (maxSteps:=9^6) +decide (disch:=first|omega|(simp only[lens]<;>omega)|decide) only [go_sem,Zm,simprocAttr,pd,p1',hp,xl,rc,wl,q7,cw,rk,rl,sk,sl,cl,Zl,hM,Yf,Oq,Du,bound,La,reaches,Zr,Ns,Zbl,X8,Nat.add_zero,Nat.zero_add,Nat.mul_one,Nat.add_sub_cancel_left]<;>rfl))
 iterate 2 (first|apply Yt|(apply Goes.ops2 fits Hh (Yp Za (Z67 Hh h.next)); · simp (maxSteps:=9^6) +decide (disch:=first|omega|(simp only[lens]<;>omega)|decide) only [go_sem,Zm,simprocAttr,pd,p1',hp,xl,rc,wl,q7,cw,rk,rl,sk,sl,cl,Zl,hM,Yf,Oq,Du,bound,La,reaches,Zr,Ns,Zbl,X8,Nat.add_zero,Nat.zero_add,Nat.mul_one,Nat.add_sub_cancel_left]<;>rfl))
 refine Uc fun hB eB=>?_
 have nB:hB.next=h.next+1+1+1:=by rw[eB]; simp only[H.Zd,H.Zb]
 have kB:∀ j,j<h.next→j≠m→hB.get j=h.get j:=fun j hj hne=>by rw[eB]; exact Yc
 have b7:hB.get (h.next+1)=some (.row 1 [[.slice m p 64 1]] false):=by rw[eB]; exact Zc
 have bm:hB.get m=some (.row 256 [pgL M] false):=by rw[eB]; exact Zc
 have bw:hB.get (h.next+1+1)=some (.row 1 [[.ptr h.next 0]] false):=by rw[eB]; exact Zc
 have bx:hB.get h.next=some (.row 16 [w] false):=by rw[eB]; exact Zc
 clear eB
 rw[←hw] at bx
 refine (Z6v Hh (h:=hB) (p7:=h.next+1) (pm:=m) (px:=h.next) (pw:=h.next+1+1) pl gb sb pb nb b7 bm p2l bw bx ?_ ?_ (by omega) (by omega) (by omega) (by omega) (by omega) (by omega) (by omega)).mono ?_
 ·simp (decide:=true) only [Zf,reduceIte]
 ·simp (decide:=true) only [Zf,reduceIte]<;>rfl
 rintro x ds' ts' hD ⟨rfl,rfl,rfl,nD,gd,mD,kD⟩
 rw[nB] at gd nD
 have Jf:=Yy @nB @gd
 iterate 3 (first|apply Zk|apply Z0|refine Zq Hh Za Zj ?_)
 refine⟨_,_,Zj,rfl,?_,?_,fun j hj hne=>?_⟩
 ·simp only[H.Zd,H.Zb,H.Yv,nD]<;>omega
 ·refine Eq.trans ?_ mD; exact Yc
 ·refine Eq.trans ?_ ((kD j (by omega) hne).trans (kB j hj hne)); exact Yc
end
end Go.Proofs.YtecakmodlkbnaaaGreatDoor
