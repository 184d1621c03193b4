/- disk.Load, slices.Clone of blocks. -/
import Derived.Test.YtmanipmhebgdbaaGreatDoorIbk
set_option maxRecDepth 100000
set_option maxHeartbeats 4000000
set_option linter.unusedSimpArgs false
set_option linter.unusedVariables false
set_option linter.unusedSectionVars false
namespace Go.Proofs.YtmanipmhebgdbaaGreatDoor
open Go.Ev
noncomputable section
theorem rs106:Tryz.f106.results.toList=[.tmp 2]:=rfl
theorem rs48:Tryz.f48.results.toList=[.tmp 2,.tmp 3]:=rfl
attribute [go_sem] rs106 rs48
def imB (L:List (List C)):Bool:=L.all fun x=>Nat.beq x.length 256&&x.all C.flat
theorem Z55 {L:List (List C)} (h:imB L=true) {x:List C} (hx:x∈L):x.length=256/\x.all C.flat=true:=by
 have:=List.all_eq_true.1 h x hx
 rw[aQ] at this
 exact⟨bQ this.1,this.2⟩
theorem Z1j {L:List (List C)} (h:imB L=true):L.all (fun l=>l.all C.flat)=true:=List.all_eq_true.2 fun x hx=>(Z55 h hx).2
def Zjs:Kn1:=fun args h=>match args with
 | [.c (.slice n 0 len z)]=>match h.get n with
  | some (.row s L _)=>Y5 (Nat.beq s 256&&Nat.beq z 256&&Nat.beq L.length len&&Nat.ble 1 len&&Nat.ble len 2048&&imB L) (some (.w (.c (.slice h.next 0 len 256)),h.new (.row 256 L false)))
  | _=>none
 | _=>none
def Zua:Kn1:=fun args h=>match args with
 | [.c (.slice n 0 len z)]=>match h.get n with
  | some (.row s L _)=>Y5 (Nat.beq s 256&&Nat.beq z 256&&Nat.beq L.length len&&Nat.ble 1 len&&Nat.ble len 2048&&imB L) (some (.tup [.c (.ptr (h.next+1+1) 0),.c (.int .i64 0)],((h.new (.row 256 L false)).new (.row 256 L false)).new (.row 6 [dkL ⟨h.next,h.next+1,len,.snil,0,0⟩] false)))
  | _=>none
 | _=>none
attribute [go_sem] Zjs Zua
section
variable (Hh:Hearts K Tryz.prog)
include Hh
theorem Zru {args:List W} {h h':Hq} {v:V} (e:Zjs args h=some (v,h')):Zb 106 args h v h':=by
 unfold Zjs at e
 split at e
 ·rename_i n len z
  split at e
  ·rename_i s L ro heq
   obtain⟨q,e⟩:=Zu.1 e
   cases e
   simp only[aQ] at q
   obtain⟨⟨⟨⟨⟨q1,q2⟩,q3⟩,q4⟩,q5⟩,q6⟩:=q
   obtain rfl:=bQ q1
   obtain rfl:=bQ q2
   have q3:=bQ q3
   have q4:=lQ q4
   have q5:=lQ q5
   have rm:Fb 256 L 0 256 len=some L:=by rw[<-q3]; exact Wq 256 L
   refine Zx.tidy ⟨Tryz.f106,Tryz.func106,kR,by decide⟩ fun tidy=>?_
   have l1:=tidy _ _ heq
   obtain⟨v,h',cc,n',rfl,n1,n2,n3,hk⟩:∃ v h',Zb 106 [.c (.slice n 0 len 256)] h v h'/\∃ n',v=.w (.c (.slice n' 0 len 256))/\h.next<=n'/\n'<h'.next/\h'.get n'=some (.row 256 L false)/\∀ m,m<h.next->h'.get m=h.get m:=by
    rcases L with _|⟨x0,L⟩
    ·simp only[List.length_nil] at q3; omega
    ·
     refine Ym Hh Tryz.f106 ?_
     repeat (first|apply Z6|apply Yx|apply Yc|((first|apply Goes.Zi|apply gO fits Hh Za); · simp (maxSteps:=9^6) +decide (disch:=first|exact dZ|fail) only [go_sem,Zm,Zh,simprocAttr,heq,rm,q3,List.length_append,Nat.zero_add,Zr,O3,Jt,Uf,Wt,R5,Zak,Ql,Js,Rl,Uo,List.replicate_succ,List.replicate_zero,Nat.zero_mul]<;>rfl))
     exact⟨_,_,Zd,_,rfl,(by first|omega|(simp only[H.Ze,H.Yv]<;>omega)),(by first|omega|(simp only[H.Ze,H.Yv]<;>omega)),(by rw[Oe (by rw[H.Yv,H.Ze]; omega)]),fun m hm=>by exact Ni⟩
   exact Zx.row1 cc n1 n3 (Z1j q6) n2 hk
  ·cases e
 ·cases e
theorem Zy6 {args:List W} {h h':Hq} {v:V} (e:Zua args h=some (v,h')):Zb 48 args h v h':=by
 unfold Zua at e
 split at e
 ·rename_i n len z
  split at e
  ·rename_i s L ro heq
   obtain⟨q,e⟩:=Zu.1 e
   cases e
   simp only[aQ] at q
   obtain⟨⟨⟨⟨⟨q1,q2⟩,q3⟩,q4⟩,q5⟩,q6⟩:=q
   obtain rfl:=bQ q1
   obtain rfl:=bQ q2
   have q3:=bQ q3
   have q4:=lQ q4
   have q5:=lQ q5
   refine Zx.tidy ⟨Tryz.f48,Tryz.func48,kR,by decide⟩ fun tidy=>?_
   have l1:=tidy _ _ heq
   refine fnG Hh Tryz.f48 ?_
   have Jf:=Jh @heq @q3 @q6
   repeat (first|apply Z6|apply Yx|apply Yc|refine Goes.Zi Ui ?_|refine Zn Hh (EY (EY Za (Z3m Hh)) (Zru Hh)) Ui ?_)
   exact Zd
  ·cases e
 ·cases e
end
theorem ty276:K.types.get 276=some ti276:=kR
attribute [go_sem] ty276
noncomputable def q35 (p:Lq):Code:=piece p (J8 Tryz.f35)
theorem Zdp:q35 [1,1,1,1,1,1,1,1,1,1,0,1,2]=.rangeFunc (.tmp 61) #[62,63] (q35 [1,1,1,1,1,1,1,1,1,1,0,1,2,5]) (q35 [1,1,1,1,1,1,1,1,1,1,0,1,2,6]):=kR
theorem Zcc:q35 [1,1,1,1,1,1,1,1,1,1,0,1,2,5]=.seq (q35 [1,1,1,1,1,1,1,1,1,1,0,1,2,5,0]) (q35 [1,1,1,1,1,1,1,1,1,1,0,1,2,5,1]):=kR
theorem Zcd:q35 [1,1,1,1,1,1,1,1,1,1,0,1,2,6]=.block 1 (q35 [1,1,1,1,1,1,1,1,1,1,0,1,2,6,2]):=kR
noncomputable def q166 (p:Lq):Code:=piece p (J8 Tryz.f166)
theorem rs35:Tryz.f35.results.toList=[.cell 4 43,.tmp 5]:=rfl
theorem rs88:Tryz.f88.results.toList=[.tmp 2]:=rfl
theorem rs166:Tryz.f166.results.toList=[]:=rfl
attribute [go_sem] rs35 rs88 rs166
theorem rs165:Tryz.f165.results.toList=[.tmp 2]:=rfl
attribute [go_sem] rs165
def tlL (ms:Lq):List (List C):=ms.map fun n=>[.int .u8 ((n % 256:Nat):Int)]
theorem Z28 (ms:Lq):(tlL ms).length=ms.length:=by simp [tlL]
theorem rdT {ms:Lq} {i:Nat} (h:i<ms.length):read1 1 (tlL ms) i=some (.int .u8 ((atN ms i:Nat):Int)):=by
 unfold read1 tlL atN
 rw[Nat.div_one,Nat.mod_one,List.getElem?_map,lG h,List.getD_eq_getElem?_getD,lG h]
 rfl
theorem Zk2:∀ ms:Lq,chunks 1 ms.length (pgL ms)=tlL ms
 | []=>rfl
 | n :: ms=>by
  show _ :: chunks 1 ms.length (pgL ms)=_
  rw[Zk2 ms]
  rfl
theorem Z7c {ns:Lq} {p k:Nat} (hl:ns.length=256) (h:p+k<=256) (k0:0<k):Zm 256 [pgL ns] p k=some (pgL ((ns.drop p).take k)):=by
 unfold Zm
 rw[Nat.div_eq_of_lt oM,Nat.mod_eq_of_lt oM,List.getElem?_cons_zero]
 cases hk:Nat.beq k 0 with
 | true=>have:=bQ hk; omega
 | false =>
  simp only[cond_false,J7,hl,Nat.ble_eq_true_of_le h,cond_true]
  unfold pgL
  rw[List.map_take,List.map_drop]
theorem Z6m {ns:Lq} {p k:Nat} (hl:ns.length=256) (h:p+k<=256) (k0:0<k):Fb 256 [pgL ns] p 1 k=some (tlL ((ns.drop p).take k)):=by
 have e:((ns.drop p).take k).length=k:=by rw[List.length_take,List.length_drop]; omega
 unfold Fb
 cases hk:Nat.beq k 0 with
 | true=>have:=bQ hk; omega
 | false =>
  rw[Nat.mul_one,Z7c hl h k0]
  show some (chunks 1 k _)=_
  rw[<-Zk2,e]
theorem Zmu {ns:Lq} {p k i:Nat} (h:i<k):atN ((ns.drop p).take k) i=atN ns (p+i):=by
 unfold atN
 rw[List.getD_eq_getElem?_getD,List.getD_eq_getElem?_getD,List.getElem?_take_of_lt h,List.getElem?_drop]
theorem Z1a {ns:Lq} {p k i:Nat} (h:i+4<=k):Yk ((ns.drop p).take k) i=Yk ns (p+i):=by
 unfold Yk
 rw[Zmu oM,Zmu oM,Zmu oM,Zmu oM]
 rfl
theorem Zqf {ns:Lq} {p k:Nat}:∀ {n i:Nat},i+4 * n<=k->Vg ((ns.drop p).take k) i n=Vg ns (p+i) n
 | 0,_,_=>rfl
 | n+1,i,h=>by
  unfold Vg
  rw[Z1a oM,Zqf oM]
  rfl
def Zrf (X:List C) (i:Nat):Lq->List C
 | []=>X
 | v :: vs=>Zrf (X.set i (.int .u32 v)) (i+1) vs
theorem Zrg:∀ (vs:Lq) (X:List C) (i:Nat),(Zrf X i vs).length=X.length
 | [],_,_=>rfl
 | v :: vs,X,i=>by
  unfold Zrf
  rw[Zrg vs,List.length_set]
theorem Zvy:∀ ms:Lq,(tlL ms).all (fun l=>l.all C.flat)=true
 | []=>rfl
 | n :: ms=>Zvy ms
theorem wrC {X:List C} (xl:X.length=16) {j:Nat} (hj:j<16) (c:C):Z0 16 [X] j [c]=some [X.set j c]:=by
 simp only[Z0]
 rw[Nat.div_eq_of_lt hj,Nat.mod_eq_of_lt hj,List.getElem?_cons_zero]
 simp only[]
 rw[Zbr oM,cond_true]
 rfl
section
variable (Hh:Hearts K Tryz.prog)
include Hh
theorem Ycg {h:Hq} {q a:Nat} {ms:Lq} (hl:ms.length=44) (hp:h.get q=some (.row 1 (tlL ms) false)) (h2:a+4<=44):Zb 164 [.c (.slice q 0 44 1),.c (.int .i64 a),.c (.int .i64 4)] h (.tup [.c (.int .u32 ((Yk ms a:Nat):Int)),.c (.bool true)]) h:=by
 have e0:(a:Int)+0=(a:Int):=Int.add_zero _
 have e1:(a:Int)+1=((a+1:Nat):Int):=rfl
 have e2:(a:Int)+2=((a+2:Nat):Int):=rfl
 have e3:(a:Int)+3=((a+3:Nat):Int):=rfl
 have g:Yk ms a=atN ms a+256 * (atN ms (a+1)+256 * (atN ms (a+2)+256 * atN ms (a+3))):=rfl
 have r0:=rdT (ms:=ms) (i:=a) oM
 have r1:=rdT (ms:=ms) (i:=a+1) oM
 have r2:=rdT (ms:=ms) (i:=a+2) oM
 have r3:=rdT (ms:=ms) (i:=a+3) oM
 obtain⟨b0,k0⟩:∃ b,atN ms a=b:=⟨_,rfl⟩
 obtain⟨b1,k1⟩:∃ b,atN ms (a+1)=b:=⟨_,rfl⟩
 obtain⟨b2,k2⟩:∃ b,atN ms (a+2)=b:=⟨_,rfl⟩
 obtain⟨b3,k3⟩:∃ b,atN ms (a+3)=b:=⟨_,rfl⟩
 have l0:=Nh ms a
 have l1:=Nh ms (a+1)
 have l2:=Nh ms (a+2)
 have l3:=Nh ms (a+3)
 rw[g,k0,k1,k2,k3]
 rw[k0] at l0 r0
 rw[k1] at l1 r1
 rw[k2] at l2 r2
 rw[k3] at l3 r3
 have s0:Zah .u32 0 8=some (.int .u32 0):=rfl
 have o0:De .u32 Nat.lor 0 (b3:Int)=.int .u32 (b3:Int):=by
  have:=or8 (v:=0) oM l3
  rwa [Nat.mul_zero,Nat.add_zero] at this
 have s1:=shl8 (v:=b3) oM
 have o1:=or8 (v:=b3) oM l2
 have s2:=shl8 (v:=b2+256 * b3) oM
 have o2:=or8 (v:=b2+256 * b3) oM l1
 have s3:=shl8 (v:=b1+256 * (b2+256 * b3)) oM
 have o3:=or8 (v:=b1+256 * (b2+256 * b3)) oM l0
 have tl:(tlL ms).length=44:=by rw[Z28,hl]
 obtain⟨T,hT⟩:=xzE (tlL ms)
 rw[hT] at hp r0 r1 r2 r3 tl
 refine fnG Hh Tryz.f164 ?_
 have Jf:=Y2 @hp (Yp @e0 @e1 @e2 @e3 @s0 @o0 @s1 @o1 (Yp @s2 @o2 @s3 @o3 @r0 @r1 @r2 @r3 @Nat.zero_add))
 repeat (first|apply Z6|apply O9|apply E9|apply Yx|apply Ea|apply Yc|refine Goes.Zi Ui ?_|refine Zn Hh (EY Za (Tc Hh)) Ui ?_)
 exact Zd
theorem Z9s {h:Hq} {q a:Nat} {ms:Lq} (hl:ms.length=44) (hp:h.get q=some (.row 1 (tlL ms) false)) (h2:a+4<=44):Zb 87 [.c (.slice q 0 44 1),.c (.int .i64 a)] h (.tup [.c (.int .u32 ((Yk ms a:Nat):Int)),.c (.bool true)]) h:=by
 have c1:=Ycg Hh hl hp h2
 refine fnG Hh Tryz.f87 ?_
 iterate 3 (first|apply Z6|refine Zn Hh Za Zd ?_)
 iterate 2 (first|apply Yc|refine Zn Hh (Zj Za c1) Zd ?_)
 exact Zd
theorem Z9r (h:Hq) (q:Nat):Zb 87 [.c (.slice q 0 44 1),.c (.int .i64 44)] h (.tup [.c (.int .u32 0),.c (.bool false)]) h:=by
 have cw:Zb 235 [.c (.int .i64 44),.c (.int .i64 44),.c (.int .i64 4)] h (.w (.c (.bool false))) h:=by
  refine fnG Hh Tryz.f235 ?_
  repeat (first|apply Z6|apply Yc|refine Zn Hh Za Zd ?_)
  exact Zd
 have c1:Zb 164 [.c (.slice q 0 44 1),.c (.int .i64 44),.c (.int .i64 4)] h (.tup [.c (.int .u32 0),.c (.bool false)]) h:=by
  refine fnG Hh Tryz.f164 ?_
  iterate 4 (first|apply Z6|refine Zn Hh Za Zmv ?_)
  iterate 5 (first|apply Z6|apply Yc|refine Goes.Zi Zmv ?_|refine Zn Hh (Zj Za cw) Zmv ?_)
  exact Zmv
 refine fnG Hh Tryz.f87 ?_
 iterate 3 (first|apply Z6|refine Zn Hh Za Zd ?_)
 iterate 2 (first|apply Yc|refine Zn Hh (Zj Za c1) Zd ?_)
 exact Zd
theorem Z0i {h:Hq} {p off:Nat} {ns:Lq} (hl:ns.length=256) (hp:h.get p=some (.row 256 [pgL ns] false)) (h1:off+44<=256):Zb 165 [.c (.slice p off 44 1)] h (.w (.c (.slice h.next 0 44 1))) (h.new (.row 1 (tlL ((ns.drop off).take 44)) false)):=by
 have rm:=Z6m hl h1 oM
 have tl:(tlL ((ns.drop off).take 44)).length=44:=by rw[Z28,List.length_take,List.length_drop]; omega
 have tf:=Zvy ((ns.drop off).take 44)
 obtain⟨T,hT⟩:=xzE (tlL ((ns.drop off).take 44))
 rw[hT] at rm tl tf ⊢
 refine Zx.tidy ⟨Tryz.f165,Tryz.func165,kR,by decide⟩ fun tidy=>?_
 have l1:=tidy _ _ hp
 obtain⟨v,h',cc,n',rfl,n1,n2,n3,hk⟩:∃ v h',Zb 165 [.c (.slice p off 44 1)] h v h'/\∃ n',v=.w (.c (.slice n' 0 44 1))/\h.next<=n'/\n'<h'.next/\h'.get n'=some (.row 1 T false)/\∀ m,m<h.next->h'.get m=h.get m:=by
  rcases T with _|⟨x0,T⟩
  ·simp only[List.length_nil] at tl; omega
  ·
   refine Ym Hh Tryz.f165 ?_
   repeat (first|apply Z6|apply Yx|apply Yc|((first|apply Goes.Zi|apply gO fits Hh Za); · simp (maxSteps:=9^6) +decide (disch:=first|exact dZ|fail) only [go_sem,Zm,Zh,simprocAttr,hp,rm,tl,List.length_append,Nat.zero_add,Zr,O3,Jt,Uf,Wt,R5,Zak,Ql,Js,Rl,Uo,List.replicate_succ,List.replicate_zero,Nat.zero_mul]<;>rfl))
   exact⟨_,_,Zd,_,rfl,(by first|omega|(simp only[H.Ze,H.Yv]<;>omega)),(by first|omega|(simp only[H.Ze,H.Yv]<;>omega)),(by rw[Oe (by rw[H.Yv,H.Ze]; omega)]),fun m hm=>by exact Ni⟩
 exact Zx.row1 cc n1 n3 tf n2 hk
theorem Ya4 {h:Hq} {p off:Nat} {ns:Lq} (hl:ns.length=256) (hp:h.get p=some (.row 256 [pgL ns] false)) (h1:off+44<=256):Zb 88 [.c (.slice p off 44 1)] h (.w (.c (.fn 166 [] [some (h.next+1,0)]))) (((h.new (.row 1 (tlL ((ns.drop off).take 44)) false)).new (.row 1 [[.snil]] false)).put (h.next+1) (.row 1 [[.slice h.next 0 44 1]] false)):=by
 have c1:=Z0i Hh hl hp h1
 obtain⟨T,hT⟩:=xzE (tlL ((ns.drop off).take 44))
 rw[hT] at c1 ⊢
 refine fnG Hh Tryz.f88 ?_
 iterate 3 (first|apply Z6|refine Zn Hh Za Zsg ?_)
 iterate 4 (first|apply Z6|apply Yc|refine Zn Hh (Zj Za c1) Zsg ?_)
 exact Zsg
section
variable {l px pb q d:Nat} {lts:Zv} {ms:Lq}
def Rb (lts:Zv) (st:LoopState) (d:Nat):O:=.loop lts 80 [62,63] (q35 [1,1,1,1,1,1,1,1,1,1,0,1,2,5]) (q35 [1,1,1,1,1,1,1,1,1,1,0,1,2,6]) st none d
theorem gtA (l:Nat) (ts:Zv) (h:Hq) {t w:C} (e1:Zg ts 62=.w (.c t)) (e2:Zg ts 63=.w (.c w)):Z9 80 (some l) (q35 [1,1,1,1,1,1,1,1,1,1,0,1,2,5]) [] ts h fun x ds' ts' h'=>x=.normal/\ds'=[]/\h'=h/\(∀ s,s<=11->Zg ts' s=Zg ts s)/\Zg ts' 12=Zg ts 62/\Zg ts' 13=Zg ts 63:=by
 have Jf:=Y2 @e1 @e2
 iterate 3 (first|apply Z6|refine Zn Hh Za Zq ?_)
 refine⟨rfl,rfl,rfl,fun s hs=>?_,?_,?_⟩
 ·simp (decide:=true) only [Y9 hs]
 ·rw[e1]; exact Zd
 ·rw[e2]; exact Zd
theorem gtB (l:Nat) {ts:Zv} {h:Hq} {i v:Nat} {X:List C} (ii:i<11) (e7:Zg ts 7=.w (.c (.ptr px 0))) (e12:Zg ts 12=.w (.c (.int .i64 ((4 * i:Nat):Int)))) (e13:Zg ts 13=.w (.c (.int .u32 (v:Int)))) (hx:h.get px=some (.row 16 [X] false)) (xl:X.length=16) :
  Z9 80 (some l) (q35 [1,1,1,1,1,1,1,1,1,1,0,1,2,6]) [] ts h fun x _ _ h'=>x=.normal/\h'=h.put px (.row 16 [X.set (4+i) (.int .u32 (v:Int))] false):=by
 have q4:Tt .i64 ((4 * i:Nat):Int) 4=some (.int .i64 (i:Int)):=by
  rw[show (4:Int)=((4:Nat):Int) from rfl,Lj oM oM,Nat.mul_div_cancel_left _ oM]
 have wc:=wrC xl (j:=4+i) oM (.int .u32 (v:Int))
 have Jf:=L8 @e7 @e12 @e13 @hx @q4 @wc
 iterate 2 (first|apply O9|refine Zn Hh Za Zq ?_)
 exact⟨rfl,rfl⟩
theorem Zxy (l px:Nat):∃ E,Sound K Tryz.prog E/\∀ (lts:Zv) (d i v:Nat) (X:List C) (h:Hq),l≠px->Zg lts 7=.w (.c (.ptr px 0))->i<11->h.get l=some (Rb lts .ready d)->h.get px=some (.row 16 [X] false)->X.length=16 ->
  J5 E l (some [.c (.int .i64 ((4 * i:Nat):Int)),.c (.int .u32 (v:Int))]) h (some (Rb lts .ready d))=some (.val (.w (.c (.bool true))) (((h.put l (Rb lts .busy d)).put px (.row 16 [X.set (4+i) (.int .u32 (v:Int))] false)).put l (Rb lts .ready d))):=by
 have ne:(q35 [1,1,1,1,1,1,1,1,1,1,0,1,2,5])≠(q35 [1,1,1,1,1,1,1,1,1,1,0,1,2,6]):=fun e=>by
  rw[Zcd,Zcc] at e
  cases e
 obtain⟨E,S,g⟩:=rounds (K:=K) (P:=Tryz.prog) (n:=80) (l:=l) ne
  (PA:=fun ts _=>∃ t w,Zg ts 62=.w (.c t)/\Zg ts 63=.w (.c w))
  (QA:=fun ts ts'=>(∀ s,s<=11->Zg ts' s=Zg ts s)/\Zg ts' 12=Zg ts 62/\Zg ts' 13=Zg ts 63)
  (PB:=fun ts h=>∃ (i v:Nat) (X:List C),i<11/\Zg ts 7=.w (.c (.ptr px 0))/\Zg ts 12=.w (.c (.int .i64 ((4 * i:Nat):Int)))/\Zg ts 13=.w (.c (.int .u32 (v:Int)))/\h.get px=some (.row 16 [X] false)/\X.length=16)
  (QB:=fun ts h h'=>∀ (i v:Nat) (X:List C),Zg ts 12=.w (.c (.int .i64 ((4 * i:Nat):Int)))->Zg ts 13=.w (.c (.int .u32 (v:Int)))->h.get px=some (.row 16 [X] false)->h'=h.put px (.row 16 [X.set (4+i) (.int .u32 (v:Int))] false))
  (fun ts h ⟨t,w,e1,e2⟩=>gtA Hh l ts h e1 e2)
  (fun ts h ⟨i,v,X,ii,e7,e12,e13,hx,xl⟩=>(gtB Hh l ii e7 e12 e13 hx xl).mono fun x _ _ h' ⟨x1,x2⟩=>⟨x1,fun i' v' X' f1 f2 f3=>by
   rw[e12] at f1
   rw[e13] at f2
   rw[hx] at f3
   cases f3
   have a1:((4 * i:Nat):Int)=((4 * i':Nat):Int):=by injection f1 with f1; injection f1 with f1; injection f1
   have a2:(v:Int)=(v':Int):=by injection f2 with f2; injection f2 with f2; injection f2
   obtain rfl:i=i':=oM
   obtain rfl:v=v':=oM
   exact x2⟩)
 refine⟨E,S,fun lts d i v X h nl e7 ii hl hx xl=>?_⟩
 have z1:Zg ((lts.set 62 (.w (.c (.int .i64 ((4 * i:Nat):Int))))).set 63 (.w (.c (.int .u32 (v:Int))))) 62=.w (.c (.int .i64 ((4 * i:Nat):Int))):=by simp (decide:=true) only [Zo,reduceIte]
 have z2:Zg ((lts.set 62 (.w (.c (.int .i64 ((4 * i:Nat):Int))))).set 63 (.w (.c (.int .u32 (v:Int))))) 63=.w (.c (.int .u32 (v:Int))):=by simp (decide:=true) only [Zo,reduceIte]
 have z7:Zg ((lts.set 62 (.w (.c (.int .i64 ((4 * i:Nat):Int))))).set 63 (.w (.c (.int .u32 (v:Int))))) 7=.w (.c (.ptr px 0)):=by simp (decide:=true) only [Zo,reduceIte,e7]
 have hx':(h.put l (Rb lts .busy d)).get px=some (.row 16 [X] false):=by rw[Zc (Ne.symm nl)]; exact hx
 obtain⟨ts',h',⟨a1,a2,a3⟩,b,r⟩:=g [.c (.int .i64 ((4 * i:Nat):Int)),.c (.int .u32 (v:Int))] h lts _ [62,63] d hl rfl ⟨_,_,z1,z2⟩ fun ts' ⟨a1,a2,a3⟩=>⟨i,v,X,ii,(a1 7 dM).trans z7,a2.trans z1,a3.trans z2,hx',xl⟩
 have b:=b i v X (a2.trans z1) (a3.trans z2) hx'
 subst b
 exact r (by rw[Zc nl]; exact Zz ..)
theorem Zyz {E:Task->Option Out} (S:Sound K Tryz.prog E) (e7:Zg lts 7=.w (.c (.ptr px 0))) (nl:l≠px)
  (rnd:∀ (i v:Nat) (X:List C) (h:Hq),i<11->h.get l=some (Rb lts .ready d)->h.get px=some (.row 16 [X] false)->X.length=16->J5 E l (some [.c (.int .i64 ((4 * i:Nat):Int)),.c (.int .u32 (v:Int))]) h (some (Rb lts .ready d))=some (.val (.w (.c (.bool true))) (((h.put l (Rb lts .busy d)).put px (.row 16 [X.set (4+i) (.int .u32 (v:Int))] false)).put l (Rb lts .ready d))))
  (ml:ms.length=44) (nb:pb≠l/\pb≠px) (nq:q≠l/\q≠px):∀ (m i:Nat) (X:List C) (ts:Zv) (h:Hq),i+m=11->h.get l=some (Rb lts .ready d)->h.get px=some (.row 16 [X] false)->X.length=16->h.get pb=some (.row 1 [[.slice q 0 44 1]] false)->h.get q=some (.row 1 (tlL ms) false) ->
  Zg ts 0=.w (.c (.yield l))->Zg ts 1=.w (.c (.ptr pb 0))->Zg ts 3=.w (.c (.int .i64 ((4 * i:Nat):Int))) ->
  Z9 25 none (q166 [1,1,2]) [] ts h fun x ds' _ h'=>x=.ret/\ds'=[]/\h'.next=h.next/\h'.get l=some (Rb lts .ready d)/\h'.get px=some (.row 16 [Zrf X (4+i) (Vg ms (4 * i) m)] false)/\∀ k,k≠l->k≠px->h'.get k=h.get k:=by
 intro m
 induction m with
 | zero =>
  intro i X ts h hi hl hx xl hb hq e0 e1 e3
  obtain rfl:i=11:=oM
  have c1:=Z9r Hh h q
  iterate 4 (first|apply Z6|apply O9|apply E9)
  have Jf:=J4 @e0 @e1 @e3 @hb
  iterate 5 (first|apply Z6|apply Yc|refine Goes.Zi Ye ?_|refine Zn Hh (Zj Za c1) Ye ?_)
  exact⟨rfl,rfl,rfl,hl,hx,fun _ _ _=>rfl⟩
 | succ m ih =>
  intro i X ts h hi hl hx xl hb hq e0 e1 e3
  have c1:=Z9s Hh ml hq (a:=4 * i) oM
  have gW:Vg ms (4 * i) (m+1)=Yk ms (4 * i) :: Vg ms (4 * (i+1)) m:=rfl
  rw[gW]
  obtain⟨v,hv⟩:=xzE (Yk ms (4 * i))
  rw[hv] at c1 ⊢
  have r:=rnd i v X h oM hl hx xl
  obtain⟨h2,eh⟩:=xzE (((h.put l (Rb lts .busy d)).put px (.row 16 [X.set (4+i) (.int .u32 (v:Int))] false)).put l (Rb lts .ready d))
  rw[eh] at r
  have n2:h2.next=h.next:=by rw[<-eh]; rfl
  have l2:h2.get l=some (Rb lts .ready d):=by rw[<-eh,Zz]
  have x2:h2.get px=some (.row 16 [X.set (4+i) (.int .u32 (v:Int))] false):=by rw[<-eh,Zc (Ne.symm nl),Zz]
  have k2:∀ k,k≠l->k≠px->h2.get k=h.get k:=fun k k1 k2=>by rw[<-eh,Zc k1,Zc k2,Zc k1]
  clear eh
  have n4:((4 * i:Nat):Int)+4=((4 * (i+1):Nat):Int):=oM
  iterate 4 (first|apply Z6|apply O9|apply E9)
  have Jf:=Ng @e0 @e1 @e3 @hb @hl @r @n4
  iterate 2 (first|apply Z6|refine Zn Hh (Zj Za c1) Ye ?_)
  iterate 4 (first|apply Yx|refine Goes.Zi Ye ?_|refine Zn Hh S Ye ?_)
  show Z9 25 none (q166 [1,1,2]) _ _ _ _
  refine (ih (i+1) _ _ h2 oM l2 x2 (by rw[List.length_set]; exact xl) ((k2 _ nb.1 nb.2).trans hb) ((k2 _ nq.1 nq.2).trans hq) ?_ ?_ ?_).mono ?_
  ·exact tZ e0
  ·exact tZ e1
  ·exact tX
  rintro x ds' ts2 h3 ⟨rfl,rfl,z1,z2,z3,z4⟩
  exact⟨rfl,rfl,z1.trans n2,z2,z3,fun k k1 k3=>(z4 k k1 k3).trans (k2 k k1 k3)⟩
theorem Z7r {h:Hq} {X:List C} (e7:Zg lts 7=.w (.c (.ptr px 0))) (nl:l≠px) (ml:ms.length=44) (nb:pb≠l/\pb≠px) (nq:q≠l/\q≠px) (hl:h.get l=some (Rb lts .ready d)) (hx:h.get px=some (.row 16 [X] false)) (xl:X.length=16) (hb:h.get pb=some (.row 1 [[.slice q 0 44 1]] false)) (hq:h.get q=some (.row 1 (tlL ms) false)) :
  ∃ v h',Zb 166 [.c (.yield l),.c (.ptr pb 0)] h v h'/\h'.next=h.next/\h'.get l=some (Rb lts .ready d)/\h'.get px=some (.row 16 [Zrf X 4 (Vg ms 0 11)] false)/\∀ k,k≠l->k≠px->h'.get k=h.get k:=by
 obtain⟨E,S,g⟩:=Zxy Hh l px
 have rnd:=fun i v X h ii hl hx xl=>g lts d i v X h nl e7 ii hl hx xl
 refine Ym Hh Tryz.f166 ?_
 iterate 8 (first|apply Z6|apply Yx|apply O9|refine Goes.Zi Zd ?_|refine Zn Hh Za Zd ?_)
 refine (Zyz Hh S e7 nl rnd ml nb nq 11 0 X _ h oM hl hx xl hb hq ?_ ?_ ?_).mono ?_
 ·simp (decide:=true) only [Zo,reduceIte,U2,List.getElem?_cons_zero]
 ·simp (decide:=true) only [Zo,reduceIte,U2,List.getElem?_cons_succ,List.getElem?_cons_zero]
 ·exact tX
 rintro x ds' ts2 h3 ⟨rfl,rfl,z1,z2,z3,z4⟩
 exact⟨_,_,Zd,z1,z2,z3,z4⟩
theorem getLoop {ts:Zv} {h:Hq} {X:List C} (e7:Zg ts 7=.w (.c (.ptr px 0))) (e61:Zg ts 61=.w (.c (.fn 166 [] [some (pb,0)]))) (ml:ms.length=44) (hx:h.get px=some (.row 16 [X] false)) (xl:X.length=16) (hb:h.get pb=some (.row 1 [[.slice q 0 44 1]] false)) (hq:h.get q=some (.row 1 (tlL ms) false)) (lx:px<h.next) (lb:pb<h.next) (lq:q<h.next) (nb:pb≠px) (nq:q≠px) :
  Z9 80 none (q35 [1,1,1,1,1,1,1,1,1,1,0,1,2]) [] ts h fun x ds' ts' h'=>x=.normal/\ts'=ts/\ds'=[h.next]/\h'.next=h.next+1+1/\h'.get h.next=some .defers/\h'.get px=some (.row 16 [Zrf X 4 (Vg ms 0 11)] false)/\∀ m,m<h.next->m≠px->h'.get m=h.get m:=by
 have g0:∀ (o:O) m,m<h.next->((h.new .defers).new o).get m=h.get m:=fun o m hm=>by rw[Yf (by rw[H.Ze]; omega),Yf oM]
 have gd:∀ o:O,((h.new .defers).new o).get h.next=some .defers:=fun o=>by rw[Yf (by rw[H.Ze]; omega),O6]
 rw[Zdp]
 refine Goes.Ze4 fits Hh (f:=166) (first:=[]) (caps:=[some (pb,0)]) (by simp only[Z4,Ya,e61,asC]) (exE (Z7r Hh (l:=h.next+1) (px:=px) (pb:=pb) (q:=q) (d:=h.next) (lts:=ts) (ms:=ms) (X:=X) e7 oM ml ⟨oM,nb⟩ ⟨oM,nq⟩ (by rw[Oe (by simp only[H.Ze]<;>omega)]; rfl) (by rw[g0 _ _ lx]; exact hx) xl (by rw[g0 _ _ lb]; exact hb) (by rw[g0 _ _ lq]; exact hq)) ?_)
 rintro v h3 ⟨w0,w1,w2,w3⟩
 refine⟨_,_,_,_,_,_,_,_,w1,by simp,?_⟩
 show _/\_/\_
 refine⟨rfl,rfl,rfl,?_,?_,?_,fun m hm hne=>?_⟩
 ·rw[H.Zf,w0]; rfl
 ·rw[Zc oM,w3 _ oM oM,gd]
 ·rw[Zc oM,w2]
 ·rw[Zc oM,w3 _ oM hne,g0 _ _ hm]
end
end
section
variable (Hh:Hearts K Tryz.prog)
include Hh
theorem Z56 {ns:Lq} {p:Nat} (nl:ns.length=256) (pc:p=0\/p=64\/p=128\/p=192) (h:Hq):Zb 35 [.g (pgL ns),.c (.int .i64 (p:Int))] h (.tup [.g (Ve ns p).1,.c (.int .i64 (Ve ns p).2)]) h:=by
 have pl:p+64<=256:=oM
 have pd:decide ((p:Int)=0\/(p:Int)=64\/(p:Int)=128\/(p:Int)=192)=true:=decide_eq_true oM
 have p1:(p:Int)+64=((p+64:Nat):Int):=rfl
 have xl:(pgL ns).length=256:=by rw[J7,nl]
 have r1:read1 256 [pgL ns] (p+1)=some (.int .u8 ((atN ns (p+1):Nat):Int)):=Zra ⟨oM,oM⟩
 have r0:read1 256 [pgL ns] p=some (.int .u8 ((atN ns p:Nat):Int)):=Zra ⟨oM,oM⟩
 by_cases b0:atN ns (p+1)=0
 ·rw[b0] at r1
  cases zz:Bv ns (p+60) 4 with
  | false =>
   have dd:Ve ns p=(ino0,70):=by unfold Ve; rw[b0,zz]; rfl
   rw[dd]
   refine Dx rfl ?_
   refine Ym Hh Tryz.f35 ?_
   have Jf:=Yp @pd @p1 @xl @r1 @zz @Nat.add_zero @Nat.zero_add @Nat.mul_one @Nat.add_sub_cancel_left
   iterate 16 (first|refine Goes.Zi Zgi ?_|refine Zn Hh (EY (EY Za (Va Hh)) (Zbj Hh)) Zgi ?_|apply gS)
   refine⟨_,_,Zmw,rfl,fun m hm=>by exact Yn⟩
  | true =>
   have dd:Ve ns p=bif Zkh ns p then (Zm8 ns p,0) else (ino0,70):=by
    unfold Ve
    rw[b0,zz]
    rfl
   rw[dd]
   have hi:=fun h=>Zns Hh (atN ns p:Int) (Ou ns (p+2):Int) (Yk ns (p+4):Int) (Yk ns (p+8):Int) (Yk ns (p+12):Int) (Yk ns (p+16):Int) (Yk ns (p+20):Int) (Yk ns (p+24):Int) (Yk ns (p+28):Int) (Yk ns (p+32):Int) (Yk ns (p+36):Int) (Yk ns (p+40):Int) (Yk ns (p+44):Int) (Yk ns (p+48):Int) (Yk ns (p+52):Int) (Yk ns (p+56):Int) h
   change ∀ h,Zb 73 [.g (Zm8 ns p)] h (.w (.c (.bool (Zkh ns p)))) h at hi
   have gw:Vg ((ns.drop (p+12)).take 44) 0 11=[Yk ns (p+12),Yk ns (p+16),Yk ns (p+20),Yk ns (p+24),Yk ns (p+28),Yk ns (p+32),Yk ns (p+36),Yk ns (p+40),Yk ns (p+44),Yk ns (p+48),Yk ns (p+52)]:=by
    rw[Zqf oM]
    simp only[Vg,Nat.add_assoc,Nat.reduceAdd,Nat.add_zero]
   have g2:=Znk ns (p+2)
   have g4:=Znl ns (p+4)
   have g8:=Znl ns (p+8)
   have ml:((ns.drop (p+12)).take 44).length=44:=by rw[List.length_take,List.length_drop]; omega
   obtain⟨l2,e2⟩:∃ x,Ou ns (p+2)=x:=⟨_,rfl⟩
   obtain⟨l4,e4⟩:∃ x,Yk ns (p+4)=x:=⟨_,rfl⟩
   obtain⟨l8,e8⟩:∃ x,Yk ns (p+8)=x:=⟨_,rfl⟩
   obtain⟨kk,ek⟩:∃ x,atN ns p=x:=⟨_,rfl⟩
   obtain⟨nx,en⟩:∃ x,Yk ns (p+56)=x:=⟨_,rfl⟩
   have hC:((Zrf [.int .u8 kk,.int .i64 l2,.int .u32 l4,.int .i64 l8,.int .u32 0,.int .u32 0,.int .u32 0,.int .u32 0,.int .u32 0,.int .u32 0,.int .u32 0,.int .u32 0,.int .u32 0,.int .u32 0,.int .u32 0,.int .u32 0] 4 (Vg ((ns.drop (p+12)).take 44) 0 11)).set 15 (.int .u32 nx))=Zm8 ns p:=by
    rw[gw]
    unfold Zm8
    rw[e2,e4,e8,ek,en]
    rfl
   have Yl:=Zrg (Vg ((ns.drop (p+12)).take 44) 0 11) [.int .u8 kk,.int .i64 l2,.int .u32 l4,.int .i64 l8,.int .u32 0,.int .u32 0,.int .u32 0,.int .u32 0,.int .u32 0,.int .u32 0,.int .u32 0,.int .u32 0,.int .u32 0,.int .u32 0,.int .u32 0,.int .u32 0] 4
   have dl:(Zm8 ns p).length=16:=rfl
   rw[e2] at g2
   rw[e4] at g4
   rw[e8] at g8
   rw[ek] at r0
   obtain⟨D,eD⟩:=xzE (Zm8 ns p)
   have df:D.all C.flat=true:=by rw[<-eD]; rfl
   obtain⟨v,h',cc,ev,hk⟩:∃ v h',Zb 35 [.g (pgL ns),.c (.int .i64 (p:Int))] h v h'/\v=.tup [.g (bif Zkh ns p then (D,(0:Int)) else (ino0,70)).1,.c (.int .i64 (bif Zkh ns p then (D,(0:Int)) else (ino0,70)).2)]/\∀ m,m<h.next->h'.get m=h.get m:=by
    rw[eD] at hi hC dl
    refine Ym Hh Tryz.f35 ?_
    have Jf:=Gq @pd @p1 @xl @r1 (Yp @r0 @zz @e2 @e4 @e8 @Nat.add_zero @Nat.zero_add @Nat.mul_one @Nat.add_sub_cancel_left)
    iterate 28 (first|refine Goes.Zi Zmx ?_|refine Zn Hh (EY (EY (EY (EY Za (Va Hh)) (Zbj Hh)) (Zme Hh)) (Mq Hh)) Zmx ?_|apply gS)
    refine Jq fun hA eA=>?_
    have nA:hA.next=h.next+1+1+1:=nxQ eA
    have kA:∀ m,m<h.next->hA.get m=h.get m:=kQ eA
    have bA:hA.get h.next=some (.row 256 [pgL ns] false):=by rw[eA]; exact Zq
    have cA:hA.get (h.next+1)=some (.row 16 [ino0] false):=by rw[eA]; exact Zd
    have xA:hA.get (h.next+1+1)=some (.row 16 [[.int .u8 kk,.int .i64 l2,.int .u32 l4,.int .i64 l8,.int .u32 0,.int .u32 0,.int .u32 0,.int .u32 0,.int .u32 0,.int .u32 0,.int .u32 0,.int .u32 0,.int .u32 0,.int .u32 0,.int .u32 0,.int .u32 0]] false):=by rw[eA]; exact Z84
    clear eA
    have c12:=Ya4 Hh nl bA (off:=p+12) oM
    have Jf:=Jh Jf @nA @bA
    iterate 2 (first|refine Zn Hh (Zj Za c12) Zmx ?_|apply gS)
    refine Jq fun hB eB=>?_
    have nB:hB.next=h.next+1+1+1+1+1:=by rw[eB]; simp only[H.Zf,H.Ze,nA]
    have kB:∀ m,m<hA.next->hB.get m=hA.get m:=kQ eB
    have qB:hB.get (h.next+1+1+1)=some (.row 1 (tlL ((ns.drop (p+12)).take 44)) false):=by rw[eB]; exact Zq
    have pB:hB.get (h.next+1+1+1+1)=some (.row 1 [[.slice (h.next+1+1+1) 0 44 1]] false):=by rw[eB]; exact Zq
    clear eB
    refine (getLoop Hh (h:=hB) (px:=h.next+1+1) (pb:=h.next+1+1+1+1) (q:=h.next+1+1+1) ?_ ?_ ml ((kB _ oM).trans xA) rfl pB qB oM oM oM oM oM).mono ?_
    ·exact tZ nA
    ·exact tZ nA
    rintro x ds' ts' hD ⟨rfl,rfl,rfl,nD,gd,xD,kD⟩
    rw[nB] at gd nD
    have bD:hD.get h.next=some (.row 256 [pgL ns] false):=(kD _ oM oM).trans ((kB _ oM).trans bA)
    have cD:hD.get (h.next+1)=some (.row 16 [ino0] false):=(kD _ oM oM).trans ((kB _ oM).trans cA)
    have kE:∀ m,m<h.next->hD.get m=h.get m:=fun m hm=>(kD _ oM oM).trans ((kB _ oM).trans (kA m hm))
    obtain⟨Y,eY⟩:=xzE (Zrf [.int .u8 kk,.int .i64 l2,.int .u32 l4,.int .i64 l8,.int .u32 0,.int .u32 0,.int .u32 0,.int .u32 0,.int .u32 0,.int .u32 0,.int .u32 0,.int .u32 0,.int .u32 0,.int .u32 0,.int .u32 0,.int .u32 0] 4 (Vg ((ns.drop (p+12)).take 44) 0 11))
    rw[eY] at xD hC Yl
    have w15:=wrC Yl (j:=15) oM (.int .u32 nx)
    rw[hC] at w15
    cases mM:Zkh ns p with
    | false =>
     rw[mM] at hi
     have Jf:=Yp @nB @nD @gd @xD @bD @cD @en @w15 @dl
     iterate 4 (first|refine Zn Hh (EY Za (Mq Hh)) Zt ?_|apply gS)
     iterate 5 (first|refine Goes.Zi Zt ?_|refine Zn Hh (Y3 Za hi) Zt ?_|apply gS)
     refine⟨_,_,Zt,rfl,fun m hm=>?_⟩
     refine Eq.trans ?_ (kE m hm); exact Yn
    | true =>
     rw[mM] at hi
     have wI:Z0 16 [ino0] 0 D=some [D]:=Tz (by have:=Zqn; omega)
     have Jf:=Y2 @wI (Yp @nB @nD @gd @xD @bD @cD @en @w15 @dl)
     iterate 4 (first|refine Zn Hh (EY Za (Mq Hh)) Zt ?_|apply gS)
     iterate 6 (first|refine Goes.Zi Zt ?_|refine Zn Hh (Y3 Za hi) Zt ?_|apply gS)
     refine⟨_,_,Zt,rfl,fun m hm=>?_⟩
     refine Eq.trans ?_ (kE m hm); exact Yn
   rw[eD,<-ev]
   refine cc.quiet ?_ hk
   rw[ev]
   cases Zkh ns p with
   | false=>rfl
   | true=>exact show (D.all C.flat&&(true&&true))=true by rw[df]; rfl
 ·have bn:(((atN ns (p+1):Nat):Int) != 0)=true:=by rw[bne,beq_eq_false_iff_ne.2 oM]; rfl
  have bb:Nat.beq (atN ns (p+1)) 0=false:=by
   cases q:Nat.beq (atN ns (p+1)) 0 with
   | false=>rfl
   | true=>exact absurd (bQ q) b0
  have dd:Ve ns p=(ino0,70):=by unfold Ve; rw[bb]; rfl
  rw[dd]
  refine Dx rfl ?_
  refine Ym Hh Tryz.f35 ?_
  have Jf:=Yp @pd @p1 @xl @r1 @bn @Nat.add_zero @Nat.zero_add @Nat.mul_one @Nat.add_sub_cancel_left
  iterate 16 (first|refine Goes.Zi Zgi ?_|refine Zn Hh (EY (EY Za (Va Hh)) (Zbj Hh)) Zgi ?_|apply gS)
  refine⟨_,_,Zmw,rfl,fun m hm=>by exact Yn⟩
end
def Y0 (b c e j:Nat):Nat:=2+e+j / c * b+2+j % c / 4
def La (c j:Nat):Nat:=j % c % 4 * 64
def gI (a b c e:Nat) (U:Nat->Lq) (z:Int):List C × Int:=if 1<=z/\z<=((a * c:Nat):Int) then Ve (U (Y0 b c e (z.toNat - 1))) (La c (z.toNat - 1)) else (ino0,2)
theorem Rw (c j:Nat):La c j=0\/La c j=64\/La c j=128\/La c j=192:=by unfold La; omega
theorem Z2g {a b c e i j:Nat} (F:Fine a b c e) (ne:i≠j) (h:Y0 b c e i=Y0 b c e j):La c i+64<=La c j\/La c j+64<=La c i:=by
 obtain⟨g1,g2,g3,g4,g5,g6,g7,g8,g9,g10,g11⟩:=F
 have t1:i % c<c:=Nat.mod_lt _ oM
 have t2:j % c<c:=Nat.mod_lt _ oM
 have d1:=Nat.div_add_mod i c
 have d2:=Nat.div_add_mod j c
 unfold Y0 at h
 unfold La
 have k:i / c=j / c:=by
  rcases Nat.lt_trichotomy (i / c) (j / c) with q|q|q
  ·have:=Nat.mul_le_mul_right b (Nat.succ_le_of_lt q)
   rw[Nat.succ_mul] at this
   omega
  ·exact q
  ·have:=Nat.mul_le_mul_right b (Nat.succ_le_of_lt q)
   rw[Nat.succ_mul] at this
   omega
 rw[k] at h d1
 have:i % c≠j % c:=fun q=>ne (d1.symm.trans (by rw[q]; exact d2))
 omega
theorem ty137:K.types.get 137=some ti137:=kR
theorem de137:ti137.desc=(.pointer 87):=by rfl
theorem ty337:K.types.get 337=some ti337:=kR
theorem sz337:ti337.size=1:=by rfl
theorem ag337:ti337.agg=false:=by rfl
attribute [go_sem] ty137 de137 ty337 sz337 ag337
noncomputable def q148 (p:Lq):Code:=piece p (J8 Tryz.f148)
theorem Zi4:q148 [1,1,1,1,1,1,0,1,2]=.rangeFunc (.tmp 37) #[38,39] (q148 [1,1,1,1,1,1,0,1,2,5]) (q148 [1,1,1,1,1,1,0,1,2,6]):=kR
theorem Zgg:q148 [1,1,1,1,1,1,0,1,2,5]=.seq (q148 [1,1,1,1,1,1,0,1,2,5,0]) (q148 [1,1,1,1,1,1,0,1,2,5,1]):=kR
theorem Zgh:q148 [1,1,1,1,1,1,0,1,2,6]=.block 2 (q148 [1,1,1,1,1,1,0,1,2,6,2]):=kR
noncomputable def q273 (p:Lq):Code:=piece p (J8 Tryz.f273)
theorem rs148:Tryz.f148.results.toList=[.tmp 6]:=rfl
theorem rs224:Tryz.f224.results.toList=[.tmp 2]:=rfl
theorem rs273:Tryz.f273.results.toList=[]:=rfl
attribute [go_sem] rs148 rs224 rs273
section
variable (Hh:Hearts K Tryz.prog)
include Hh
section
variable {l p p7 pm px pw d:Nat} {lts:Zv}
def Rc (lts:Zv) (st:LoopState) (d:Nat):O:=.loop lts 44 [38,39] (q148 [1,1,1,1,1,1,0,1,2,5]) (q148 [1,1,1,1,1,1,0,1,2,6]) st none d
theorem ptA (l:Nat) (ts:Zv) (h:Hq) {t w:C} (e1:Zg ts 38=.w (.c t)) (e2:Zg ts 39=.w (.c w)):Z9 44 (some l) (q148 [1,1,1,1,1,1,0,1,2,5]) [] ts h fun x ds' ts' h'=>x=.normal/\ds'=[]/\h'=h/\(∀ s,s<=7->Zg ts' s=Zg ts s)/\Zg ts' 8=Zg ts 38/\Zg ts' 9=Zg ts 39:=by
 have Jf:=Y2 @e1 @e2
 iterate 3 (first|refine Zn Hh Za Zq ?_|apply gS)
 refine⟨rfl,rfl,rfl,fun s hs=>?_,?_,?_⟩
 ·simp (decide:=true) only [Y9 hs]
 ·rw[e1]; exact Zd
 ·rw[e2]; exact Zd
theorem ptB (l:Nat) {ts:Zv} {h:Hq} {a v:Nat} {ns:Lq} (aa:a+4<=64) (vv:v<4294967296) (pl:p+64<=256) (e7:Zg ts 7=.w (.c (.ptr p7 0))) (e8:Zg ts 8=.w (.c (.int .i64 (a:Int)))) (e9:Zg ts 9=.w (.c (.int .u32 (v:Int)))) (h7:h.get p7=some (.row 1 [[.slice pm p 64 1]] false)) (hx:h.get pm=some (.row 256 [pgL ns] false)) (nl:ns.length=256) :
  Z9 44 (some l) (q148 [1,1,1,1,1,1,0,1,2,6]) [] ts h fun x _ _ h'=>x=.normal/\h'=h.put pm (.row 256 [pgL (Jz ns (p+a) v)] false):=by
 have xl:(pgL ns).length=256:=by rw[J7,nl]
 have Jf:=L8 @e7 @e8 @e9 @h7 @hx @xl
 iterate 2 (first|refine Zn Hh (EY Za (Zfh Hh)) Ye ?_|apply gS)
 exact⟨rfl,rfl⟩
theorem Zyi (l p7 pm:Nat) (pl:p+64<=256):∃ E,Sound K Tryz.prog E/\∀ (lts:Zv) (d a v:Nat) (ns:Lq) (h:Hq),l≠pm->l≠p7->Zg lts 7=.w (.c (.ptr p7 0))->a+4<=64->v<4294967296->h.get l=some (Rc lts .ready d)->h.get p7=some (.row 1 [[.slice pm p 64 1]] false)->h.get pm=some (.row 256 [pgL ns] false)->ns.length=256 ->
  J5 E l (some [.c (.int .i64 (a:Int)),.c (.int .u32 (v:Int))]) h (some (Rc lts .ready d))=some (.val (.w (.c (.bool true))) (((h.put l (Rc lts .busy d)).put pm (.row 256 [pgL (Jz ns (p+a) v)] false)).put l (Rc lts .ready d))):=by
 have ne:(q148 [1,1,1,1,1,1,0,1,2,5])≠(q148 [1,1,1,1,1,1,0,1,2,6]):=fun e=>by
  rw[Zgh,Zgg] at e
  cases e
 obtain⟨E,S,g⟩:=rounds (K:=K) (P:=Tryz.prog) (n:=44) (l:=l) ne
  (PA:=fun ts _=>∃ t w,Zg ts 38=.w (.c t)/\Zg ts 39=.w (.c w))
  (QA:=fun ts ts'=>(∀ s,s<=7->Zg ts' s=Zg ts s)/\Zg ts' 8=Zg ts 38/\Zg ts' 9=Zg ts 39)
  (PB:=fun ts h=>∃ (a v:Nat) (ns:Lq),a+4<=64/\v<4294967296/\Zg ts 7=.w (.c (.ptr p7 0))/\Zg ts 8=.w (.c (.int .i64 (a:Int)))/\Zg ts 9=.w (.c (.int .u32 (v:Int)))/\h.get p7=some (.row 1 [[.slice pm p 64 1]] false)/\h.get pm=some (.row 256 [pgL ns] false)/\ns.length=256)
  (QB:=fun ts h h'=>∀ (a v:Nat) (ns:Lq),Zg ts 8=.w (.c (.int .i64 (a:Int)))->Zg ts 9=.w (.c (.int .u32 (v:Int)))->h.get pm=some (.row 256 [pgL ns] false)->h'=h.put pm (.row 256 [pgL (Jz ns (p+a) v)] false))
  (fun ts h ⟨t,w,e1,e2⟩=>ptA Hh l ts h e1 e2)
  (fun ts h ⟨a,v,ns,aa,vv,e7,e8,e9,h7,hx,nl⟩=>(ptB Hh l aa vv pl e7 e8 e9 h7 hx nl).mono fun x _ _ h' ⟨x1,x2⟩=>⟨x1,fun a' v' ns' f1 f2 f3=>by
   rw[e8] at f1
   rw[e9] at f2
   rw[hx] at f3
   have a1:(a:Int)=(a':Int):=by injection f1 with f1; injection f1 with f1; injection f1
   have a2:(v:Int)=(v':Int):=by injection f2 with f2; injection f2 with f2; injection f2
   obtain rfl:a=a':=oM
   obtain rfl:v=v':=oM
   have a3:pgL ns=pgL ns':=by injection f3 with f3; injection f3 with _ f3; injection f3
   rw[x2,<-Xh ns,<-Xh ns',<-Gr,<-Gr,a3]⟩)
 refine⟨E,S,fun lts d a v ns h nl np e7 aa vv hl h7 hx xl=>?_⟩
 have z1:Zg ((lts.set 38 (.w (.c (.int .i64 (a:Int))))).set 39 (.w (.c (.int .u32 (v:Int))))) 38=.w (.c (.int .i64 (a:Int))):=by simp (decide:=true) only [Zo,reduceIte]
 have z2:Zg ((lts.set 38 (.w (.c (.int .i64 (a:Int))))).set 39 (.w (.c (.int .u32 (v:Int))))) 39=.w (.c (.int .u32 (v:Int))):=by simp (decide:=true) only [Zo,reduceIte]
 have z7:Zg ((lts.set 38 (.w (.c (.int .i64 (a:Int))))).set 39 (.w (.c (.int .u32 (v:Int))))) 7=.w (.c (.ptr p7 0)):=by simp (decide:=true) only [Zo,reduceIte,e7]
 have hx':(h.put l (Rc lts .busy d)).get pm=some (.row 256 [pgL ns] false):=by rw[Zc (Ne.symm nl)]; exact hx
 have h7':(h.put l (Rc lts .busy d)).get p7=some (.row 1 [[.slice pm p 64 1]] false):=by rw[Zc (Ne.symm np)]; exact h7
 obtain⟨ts',h',⟨a1,a2,a3⟩,b,r⟩:=g [.c (.int .i64 (a:Int)),.c (.int .u32 (v:Int))] h lts _ [38,39] d hl rfl ⟨_,_,z1,z2⟩ fun ts' ⟨a1,a2,a3⟩=>⟨a,v,ns,aa,vv,(a1 7 dM).trans z7,a2.trans z1,a3.trans z2,h7',hx',xl⟩
 have b:=b a v ns (a2.trans z1) (a3.trans z2) hx'
 subst b
 exact r (by rw[Zc nl]; exact Zz ..)
def Rnd (E:Task->Option Out) (l p7 pm p d:Nat) (lts:Zv):Prop:=∀ (a v:Nat) (ns:Lq) (h:Hq),a+4<=64->v<4294967296->h.get l=some (Rc lts .ready d)->h.get p7=some (.row 1 [[.slice pm p 64 1]] false)->h.get pm=some (.row 256 [pgL ns] false)->ns.length=256 ->
  ∃ h',J5 E l (some [.c (.int .i64 (a:Int)),.c (.int .u32 (v:Int))]) h (some (Rc lts .ready d))=some (.val (.w (.c (.bool true))) h')/\h'.next=h.next/\h'.get l=some (Rc lts .ready d)/\h'.get pm=some (.row 256 [pgL (Jz ns (p+a) v)] false)/\∀ k,k≠l->k≠pm->h'.get k=h.get k
theorem Yaj (l p7 pm:Nat) (pl:p+64<=256) (nl:l≠pm) (np:l≠p7) (e7:Zg lts 7=.w (.c (.ptr p7 0))) (d:Nat):∃ E,Sound K Tryz.prog E/\Rnd E l p7 pm p d lts:=by
 obtain⟨E,S,g⟩:=Zyi Hh l p7 pm pl
 refine⟨E,S,fun a v ns h aa vv hl h7 hx xl=>⟨_,g lts d a v ns h nl np e7 aa vv hl h7 hx xl,rfl,Zz ..,?_,fun k k1 k2=>?_⟩⟩
 ·rw[Zc (Ne.symm nl),Zz]
 ·rw[Zc k1,Zc k2,Zc k1]
theorem Zt4 {E:Task->Option Out} (S:Sound K Tryz.prog E) (R:Rnd E l p7 pm p d lts) (n7:p7≠l/\p7≠pm) {ps:Lq} (pl:ps.length=11) (pb:∀ v∈ps,v<4294967296):∀ (vs:Lq) (i:Nat) (ns:Lq) (ts:Zv) (h:Hq),i+vs.length=11->ps.drop i=vs->h.get l=some (Rc lts .ready d)->h.get p7=some (.row 1 [[.slice pm p 64 1]] false)->h.get pm=some (.row 256 [pgL ns] false)->ns.length=256 ->
  Zg ts 0=.w (.c (.yield l))->Zg ts 1=.w (.c (.ptr pw 0))->Zg ts 25=.w (.g (ps.map fun v:Nat=>C.int .u32 (v:Int)))->Zg ts 26=.w (.c (.int .i64 (i:Int))) ->
  Z9 44 none (q273 [1,0,1,2]) [] ts h fun x ds' ts' h'=>x=.exit 0/\ds'=[]/\Zg ts' 0=.w (.c (.yield l))/\Zg ts' 1=.w (.c (.ptr pw 0))/\h'.next=h.next/\h'.get l=some (Rc lts .ready d)/\h'.get pm=some (.row 256 [pgL (Zi3 ns (p+(12+4 * i)) vs)] false)/\∀ k,k≠l->k≠pm->h'.get k=h.get k:=by
 intro vs
 induction vs with
 | nil =>
  intro i ns ts h hi hv hl h7 hx xl e0 e1 e25 e26
  obtain rfl:i=11:=by simpa using hi
  have Jf:=J4 @e0 @e1 @e25 @e26
  iterate 6 (first|refine Goes.Zi Zq ?_|refine Zn Hh Za Zq ?_|apply gS)
  exact⟨rfl,rfl,by simp (decide:=true) only [Zo,reduceIte,e0],by simp (decide:=true) only [Zo,reduceIte,e1],rfl,hl,hx,fun _ _ _=>rfl⟩
 | cons v vs ih =>
  intro i ns ts h hi hv hl h7 hx xl e0 e1 e25 e26
  have hi':i<11:=by rw[List.length_cons] at hi; omega
  have iv:ps[i]? = some v:=by
   have:=congrArg (fun l=>l[0]?) hv
   simpa using this
  have vb:v<4294967296:=pb v (lM iv)
  have hv':ps.drop (i+1)=vs:=by rw[<-List.drop_drop,hv]; rfl
  have ix:(ps.map fun v:Nat=>C.int .u32 (v:Int))[i]? = some (.int .u32 (v:Int)):=by rw[List.getElem?_map,iv]; rfl
  have Ll:(ps.map fun v:Nat=>C.int .u32 (v:Int)).length=11:=by rw[List.length_map,pl]
  obtain⟨L,hL⟩:=xzE ((ps.map fun v:Nat=>C.int .u32 (v:Int)))
  simp only[hL] at ih
  rw[hL] at ix Ll e25
  obtain⟨h2,r,n2,l2,x2,k2⟩:=R (12+4 * i) v ns h oM vb hl h7 hx xl
  have n32:(4:Int) * (i:Int)=((4 * i:Nat):Int):=rfl
  have n33:(12:Int)+((4 * i:Nat):Int)=((12+4 * i:Nat):Int):=rfl
  have n4:(i:Int)+1=((i+1:Nat):Int):=rfl
  iterate 11 (first|((first|apply Goes.Zi|apply gO fits Hh Za); · simp (maxSteps:=9^6) +decide (disch:=first|exact dZ|fail) only [go_sem,Zm,Zh,simprocAttr,e0,e1,e25,e26,hl,r,n32,n33,n4,ix,Ll,Na,Zky]<;>rfl)|apply gS)
  iterate 4 (first|((first|apply Goes.Zi|apply gO fits Hh S); · simp (maxSteps:=9^6) +decide (disch:=first|exact dZ|fail) only [go_sem,Zm,Zh,simprocAttr,e0,e1,e25,e26,hl,r,n32,n33,n4,ix,Ll,Na,Zky]<;>rfl)|apply gS)
  show Z9 44 none (q273 [1,0,1,2]) _ _ _ _
  refine (ih (i+1) _ _ h2 (by rw[List.length_cons] at hi; omega) hv' l2 ((k2 _ n7.1 n7.2).trans h7) x2 (by rw[Yj]; exact xl) ?_ ?_ ?_ ?_).mono ?_
  ·exact tZ e0
  ·exact tZ e1
  ·exact tZ e25
  ·exact tX
  rintro x ds' ts2 h3 ⟨rfl,rfl,z0,z1,z2,z3,z4,z5⟩
  exact⟨rfl,rfl,z0,z1,z2.trans n2,z3,z4,fun k k1 k3=>(z5 k k1 k3).trans (k2 k k1 k3)⟩
theorem Z3g {E:Task->Option Out} (S:Sound K Tryz.prog E) (R:Rnd E l p7 pm p d lts) (n7:p7≠l/\p7≠pm) (nw:pw≠l/\pw≠pm) (nx':px≠l/\px≠pm) {k li g s p0 p1 p2 p3 p4 p5 p6 p7' p8 p9 p10 nx:Nat} (gb:g<4294967296) (sb:s<4294967296) (pb:∀ v∈[p0,p1,p2,p3,p4,p5,p6,p7',p8,p9,p10],v<4294967296) (nb:nx<4294967296) {ns:Lq} {h:Hq} (hl:h.get l=some (Rc lts .ready d)) (h7:h.get p7=some (.row 1 [[.slice pm p 64 1]] false)) (hx:h.get pm=some (.row 256 [pgL ns] false)) (xl:ns.length=256) (hw:h.get pw=some (.row 1 [[.ptr px 0]] false)) (hi:h.get px=some (.row 16 [Ra k li g s p0 p1 p2 p3 p4 p5 p6 p7' p8 p9 p10 nx] false)) :
  ∃ v h',Zb 273 [.c (.yield l),.c (.ptr pw 0)] h v h'/\h'.next=h.next/\h'.get l=some (Rc lts .ready d)/\h'.get pm=some (.row 256 [pgL (Jz (Zi3 (Jz (Jz ns (p+4) g) (p+8) s) (p+12) [p0,p1,p2,p3,p4,p5,p6,p7',p8,p9,p10]) (p+56) nx)] false)/\∀ m,m≠l->m≠pm->h'.get m=h.get m:=by
 obtain⟨h1,r1,n1,l1,x1,k1⟩:=R 4 g ns h oM gb hl h7 hx xl
 obtain⟨h2,r2,n2,l2,x2,k2⟩:=R 8 s _ h1 oM sb l1 ((k1 _ n7.1 n7.2).trans h7) x1 (by rw[Yj]; exact xl)
 have w1:=(k1 _ nw.1 nw.2).trans hw
 have i1:=(k1 _ nx'.1 nx'.2).trans hi
 have w2:=(k2 _ nw.1 nw.2).trans w1
 have i2:=(k2 _ nx'.1 nx'.2).trans i1
 have h72:=(k2 _ n7.1 n7.2).trans ((k1 _ n7.1 n7.2).trans h7)
 have r1':J5 E l (some [.c (.int .i64 4),.c (.int .u32 (g:Int))]) h (some (Rc lts .ready d))=some (.val (.w (.c (.bool true))) h1):=r1
 have r2':J5 E l (some [.c (.int .i64 8),.c (.int .u32 (s:Int))]) h1 (some (Rc lts .ready d))=some (.val (.w (.c (.bool true))) h2):=r2
 refine Ym Hh Tryz.f273 ?_
 iterate 2 (apply gS)
 iterate 7 (first|((first|apply Goes.Zi|apply gO fits Hh S); · simp (maxSteps:=9^6) +decide (disch:=first|exact dZ|fail) only [go_sem,Zm,Zh,simprocAttr,hl,hw,hi,Ra,r1',l1,w1,i1,r2',w2,i2,read1]<;>rfl)|apply gS)
 refine (Zt4 Hh (pw:=pw) S R n7 rfl pb _ 0 _ _ h2 rfl rfl l2 h72 x2 (by rw[Yj,Yj]; exact xl) ?_ ?_ ?_ ?_).mono ?_
 ·simp (decide:=true) only [Zo,reduceIte,U2,List.getElem?_cons_zero]
 ·simp (decide:=true) only [Zo,reduceIte,U2,List.getElem?_cons_succ,List.getElem?_cons_zero]
 ·exact tX
 ·exact tX
 rintro x ds' ts' h3 ⟨rfl,rfl,f0,f1,n3,l3,x3,k3⟩
 obtain⟨h4,r4,n4,l4,x4,k4⟩:=R 56 nx _ h3 oM nb l3 ((k3 _ n7.1 n7.2).trans h72) x3 (by rw[Em,Yj,Yj]; exact xl)
 have w3:=(k3 _ nw.1 nw.2).trans w2
 have i3:=(k3 _ nx'.1 nx'.2).trans i2
 have r4':J5 E l (some [.c (.int .i64 56),.c (.int .u32 (nx:Int))]) h3 (some (Rc lts .ready d))=some (.val (.w (.c (.bool true))) h4):=r4
 (apply gO fits Hh S; · simp (maxSteps:=9^6) +decide (disch:=first|exact dZ|fail) only [go_sem,Zm,Zh,simprocAttr,f0,f1,l3,w3,i3,Ra,r4',read1]<;>rfl)
 exact⟨_,_,Zd,by rw[n4,n3,n2,n1],l4,x4,fun m m1 m2=>(k4 m m1 m2).trans ((k3 m m1 m2).trans ((k2 m m1 m2).trans (k1 m m1 m2)))⟩
theorem Z65 {ts:Zv} {h:Hq} (pl:p+64<=256) {k li g s p0 p1 p2 p3 p4 p5 p6 p7' p8 p9 p10 nx:Nat} (gb:g<4294967296) (sb:s<4294967296) (pb:∀ v∈[p0,p1,p2,p3,p4,p5,p6,p7',p8,p9,p10],v<4294967296) (nb:nx<4294967296) {ns:Lq} (h7:h.get p7=some (.row 1 [[.slice pm p 64 1]] false)) (hx:h.get pm=some (.row 256 [pgL ns] false)) (xl:ns.length=256) (hw:h.get pw=some (.row 1 [[.ptr px 0]] false)) (hi:h.get px=some (.row 16 [Ra k li g s p0 p1 p2 p3 p4 p5 p6 p7' p8 p9 p10 nx] false))
  (e7:Zg ts 7=.w (.c (.ptr p7 0))) (e37:Zg ts 37=.w (.c (.fn 273 [] [some (pw,0)]))) (l7:p7<h.next) (lm:pm<h.next) (lw:pw<h.next) (lx:px<h.next) (n7:p7≠pm) (nw:pw≠pm) (nxm:px≠pm) :
  Z9 44 none (q148 [1,1,1,1,1,1,0,1,2]) [] ts h fun x ds' ts' h'=>x=.normal/\ts'=ts/\ds'=[h.next]/\h'.next=h.next+1+1/\h'.get h.next=some .defers/\h'.get pm=some (.row 256 [pgL (Jz (Zi3 (Jz (Jz ns (p+4) g) (p+8) s) (p+12) [p0,p1,p2,p3,p4,p5,p6,p7',p8,p9,p10]) (p+56) nx)] false)/\∀ m,m<h.next->m≠pm->h'.get m=h.get m:=by
 have g0:∀ (o:O) m,m<h.next->((h.new .defers).new o).get m=h.get m:=fun o m hm=>by rw[Yf (by rw[H.Ze]; omega),Yf oM]
 have gd:∀ o:O,((h.new .defers).new o).get h.next=some .defers:=fun o=>by rw[Yf (by rw[H.Ze]; omega),O6]
 obtain⟨E,S,R⟩:=Yaj Hh (lts:=ts) (h.next+1) p7 pm pl oM oM e7 h.next
 rw[Zi4]
 refine Goes.Ze4 fits Hh (f:=273) (first:=[]) (caps:=[some (pw,0)]) (by simp only[Z4,Ya,e37,asC]) (exE (Z3g Hh (px:=px) (pw:=pw) S R ⟨oM,n7⟩ ⟨oM,nw⟩ ⟨oM,nxm⟩ gb sb pb nb (by rw[Oe (by simp only[H.Ze]<;>omega)]; rfl) (by rw[g0 _ _ l7]; exact h7) (by rw[g0 _ _ lm]; exact hx) xl (by rw[g0 _ _ lw]; exact hw) (by rw[g0 _ _ lx]; exact hi)) ?_)
 rintro v h3 ⟨w0,w1,w2,w3⟩
 refine⟨_,_,_,_,_,_,_,_,w1,by simp,?_⟩
 show _/\_/\_
 refine⟨rfl,rfl,rfl,?_,?_,?_,fun m hm hne=>?_⟩
 ·rw[H.Zf,w0]; rfl
 ·rw[Zc oM,w3 _ oM oM,gd]
 ·rw[Zc oM,w2]
 ·rw[Zc oM,w3 _ oM hne,g0 _ _ hm]
end
end
theorem Ydu {ns:Lq} {p:Nat} (nl:ns.length=256) (pl:p+64<=256):Z0 256 [pgL ns] p (List.replicate 64 (.int .u8 0))=some [pgL (Zcs ns p)]:=by
 have e:List.replicate 64 (C.int .u8 0)=.int .u8 0 :: .int .u8 0 :: List.replicate 62 (.int .u8 0):=rfl
 have z:pgL (List.replicate 64 0)=List.replicate 64 (.int .u8 0):=rfl
 unfold Zcs
 rw[show pgL (ns.take p++(List.replicate 64 0++ns.drop (p+64)))=(pgL ns).take p++List.replicate 64 (.int .u8 0)++(pgL ns).drop (p+64) by rw[<-z]; simp only[pgL,List.map_append,List.map_take,List.map_drop,List.append_assoc]]
 rw[e]
 simp only[Z0]
 rw[Nat.div_eq_of_lt oM,Nat.mod_eq_of_lt oM,List.getElem?_cons_zero]
 simp only[J7,nl,List.length_cons,List.length_replicate]
 rw[Qs oM,cond_true]
 rfl
section
variable (Hh:Hearts K Tryz.prog)
include Hh
theorem Z73 (x:Nat) (h:Hq):Zb 224 [.c (.ptr x 0)] h (.w (.c (.fn 273 [] [some (h.next,0)]))) (h.new (.row 1 [[.ptr x 0]] false)):=by
 refine fnG Hh Tryz.f224 ?_
 iterate 5 (first|apply Z6|apply Yc|refine Zn Hh Za Fq ?_)
 exact Fq
theorem Zv6 {ns:Lq} {p:Nat} (nl:ns.length=256) (pc:p=0\/p=64\/p=128\/p=192) {k l g s p0 p1 p2 p3 p4 p5 p6 p7 p8 p9 p10 nx:Nat} (kb:k<256) (lb:l<65536) (gb:g<4294967296) (sb:s<4294967296) (pb:∀ v∈[p0,p1,p2,p3,p4,p5,p6,p7,p8,p9,p10],v<4294967296) (nb:nx<4294967296) (hm:Ziq k l s p0 p1 p2 p3 p4 p5 p6 p7 p8 p9 p10 nx=true) {h:Hq} {m:Nat} (hp:h.get m=some (.row 256 [pgL ns] false)) (lm:m<h.next) :
  ∃ h',Zb 148 [.c (.ptr m 0),.c (.int .i64 (p:Int)),.g (Ra k l g s p0 p1 p2 p3 p4 p5 p6 p7 p8 p9 p10 nx)] h (.w (.c (.int .i64 0))) h'/\h.next<=h'.next/\h'.get m=some (.row 256 [pgL (Ed ns p k l g s [p0,p1,p2,p3,p4,p5,p6,p7,p8,p9,p10] nx)] false)/\∀ j,j<h.next->j≠m->h'.get j=h.get j:=by
 have pl:p+64<=256:=oM
 have pd:decide ((p:Int)=0\/(p:Int)=64\/(p:Int)=128\/(p:Int)=192)=true:=decide_eq_true oM
 have p1':(p:Int)+64=((p+64:Nat):Int):=rfl
 have xl:(pgL ns).length=256:=by rw[J7,nl]
 have rc:read1 256 [pgL ns] 255=some (.int .u8 ((atN ns 255:Nat):Int)):=Zra ⟨oM,oM⟩
 have hi:=fun h=>Zns Hh k l g s p0 p1 p2 p3 p4 p5 p6 p7 p8 p9 p10 nx h
 rw[hm] at hi
 change ∀ h,Zb 73 [.g (Ra k l g s p0 p1 p2 p3 p4 p5 p6 p7 p8 p9 p10 nx)] h (.w (.c (.bool true))) h at hi
 have cl:(Zcs ns p).length=256:=by rw[M0 oM,nl]
 have cw:=Ydu nl pl
 simp only[List.reduceReplicate] at cw
 have q7:∀ x:C,read1 1 [[x]] 0=some x:=fun _=>rfl
 obtain⟨w,hw⟩:=xzE (Ra k l g s p0 p1 p2 p3 p4 p5 p6 p7 p8 p9 p10 nx)
 have wl:w.length=16:=by rw[<-hw]; rfl
 have rk:read1 16 [w] 0=some (.int .u8 (k:Int)):=by rw[<-hw]; rfl
 have rl:read1 16 [w] 1=some (.int .i64 (l:Int)):=by rw[<-hw]; rfl
 have wk:Jm .u8 (k:Int)=.int .u8 ((k % 256:Nat):Int):=wr8
 have ek:(C.int .u8 (k:Int))=.int .u8 ((k % 256:Nat):Int):=by rw[Nat.mod_eq_of_lt kb]
 have sk:Z0 256 [pgL (Zcs ns p)] p [.int .u8 (k:Int)]=some [pgL ((Zcs ns p).set p k)]:=by rw[ek]; exact Z75 ⟨oM,oM⟩
 have sl:((Zcs ns p).set p k).length=256:=by rw[List.length_set,cl]
 have p2l:(G8 ((Zcs ns p).set p k) (p+2) l).length=256:=by rw[Yz,sl]
 obtain⟨N,hN⟩:=xzE ((Zcs ns p).set p k)
 obtain⟨M,hM⟩:=xzE (G8 N (p+2) l)
 unfold Ed
 rw[hN] at sk sl p2l ⊢
 rw[hM] at p2l ⊢
 obtain⟨Z,hZ⟩:=xzE (Zcs ns p)
 rw[hZ] at sk cw cl
 have Zl:(pgL Z).length=256:=by rw[J7,cl]
 rw[hw] at hi ⊢
 refine Ow ?_
 refine Ym Hh Tryz.f148 ?_
 iterate 11 (first|apply Z6|apply O9|((first|apply Goes.Zi|apply gO fits Hh (EY Za (Va Hh))); · simp (maxSteps:=9^6) +decide (disch:=first|exact dZ|fail) only [go_sem,Zh,simprocAttr,pd,p1',hp,xl,rc,wl,q7,cw,rk,rl,sk,sl,cl,Zl,hM,Yt,Uj,Bf,bound,Dy,reaches,Zr,Rq,Zb6,Xy,Nat.add_zero,Nat.zero_add,Nat.mul_one,Nat.add_sub_cancel_left]<;>rfl))
 iterate 10 (first|apply Z6|apply Yx|((first|apply Goes.Zi|apply gO fits Hh (Y3 Za hi)); · simp (maxSteps:=9^6) +decide (disch:=first|exact dZ|fail) only [go_sem,Zh,simprocAttr,pd,p1',hp,xl,rc,wl,q7,cw,rk,rl,sk,sl,cl,Zl,hM,Yt,Uj,Bf,bound,Dy,reaches,Zr,Rq,Zb6,Xy,Nat.add_zero,Nat.zero_add,Nat.mul_one,Nat.add_sub_cancel_left]<;>rfl))
 iterate 3 (first|apply Z6|(apply gO fits Hh (EY Za (Zmk Hh)); · simp (maxSteps:=9^6) +decide (disch:=first|exact dZ|fail) only [go_sem,Zh,simprocAttr,pd,p1',hp,xl,rc,wl,q7,cw,rk,rl,sk,sl,cl,Zl,hM,Yt,Uj,Bf,bound,Dy,reaches,Zr,Rq,Zb6,Xy,Nat.add_zero,Nat.zero_add,Nat.mul_one,Nat.add_sub_cancel_left]<;>rfl))
 iterate 2 (first|apply O9|(apply gO fits Hh (Y3 Za (Z73 Hh h.next)); · simp (maxSteps:=9^6) +decide (disch:=first|exact dZ|fail) only [go_sem,Zh,simprocAttr,pd,p1',hp,xl,rc,wl,q7,cw,rk,rl,sk,sl,cl,Zl,hM,Yt,Uj,Bf,bound,Dy,reaches,Zr,Rq,Zb6,Xy,Nat.add_zero,Nat.zero_add,Nat.mul_one,Nat.add_sub_cancel_left]<;>rfl))
 refine Jq fun hB eB=>?_
 have nB:hB.next=h.next+1+1+1:=nxQ eB
 have kB:∀ j,j<h.next->j≠m->hB.get j=h.get j:=fun j hj hne=>by rw[eB]; exact Yn
 have b7:hB.get (h.next+1)=some (.row 1 [[.slice m p 64 1]] false):=by rw[eB]; exact Zd
 have bm:hB.get m=some (.row 256 [pgL M] false):=by rw[eB]; exact Zd
 have bw:hB.get (h.next+1+1)=some (.row 1 [[.ptr h.next 0]] false):=by rw[eB]; exact Zd
 have bx:hB.get h.next=some (.row 16 [w] false):=by rw[eB]; exact Zd
 clear eB
 rw[<-hw] at bx
 refine (Z65 Hh (h:=hB) (p7:=h.next+1) (pm:=m) (px:=h.next) (pw:=h.next+1+1) pl gb sb pb nb b7 bm p2l bw bx ?_ ?_ oM oM oM oM oM oM oM).mono ?_
 ·exact tY
 ·exact tX
 rintro x ds' ts' hD ⟨rfl,rfl,rfl,nD,gd,mD,kD⟩
 rw[nB] at gd nD
 have Jf:=Y2 @nB @gd
 iterate 3 (first|apply Z6|apply Yc|refine Zn Hh Za Zq ?_)
 refine⟨_,_,Zq,rfl,?_,?_,fun j hj hne=>?_⟩
 ·simp only[H.Zf,H.Ze,H.Yv,nD]<;>omega
 ·refine Eq.trans ?_ mD; exact Yn
 ·refine Eq.trans ?_ ((kD j oM hne).trans (kB j hj hne)); exact Yn
end
end
end Go.Proofs.YtmanipmhebgdbaaGreatDoor
