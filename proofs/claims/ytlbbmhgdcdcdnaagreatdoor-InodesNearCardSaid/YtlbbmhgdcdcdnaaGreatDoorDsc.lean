/- mkfs.Make: the image of an empty file system. -/
import Derived.Test.YtlbbmhgdcdcdnaaGreatDoorSup5
import Derived.Test.YtlbbmhgdcdcdnaaGreatDoorMkd
import Derived.Test.YtlbbmhgdcdcdnaaGreatDoorInw
import Derived.Test.YtlbbmhgdcdcdnaaGreatDoorDld
import Derived.KernelRfl
set_option linter.unusedSimpArgs false
set_option linter.unusedVariables false
set_option linter.unusedSectionVars false
set_option maxRecDepth 100000
set_option maxHeartbeats 4000000
namespace Go.Proofs.YtlbbmhgdcdcdnaaGreatDoor
open Go.Ev
theorem rs48:Tryz.f48.results.toList=[]:=rfl
attribute [go_sem] rs48
def descB (a b c:Nat):List C:=pgL (sealN (desN (firstD a b c) 0 zerN0))
structure Img (a b c d k:Nat) (L:List (List C)):Prop where
 len:L.length=2+d+a * b
 im:imB L=true
 de:L[1]? = some (descB a b c)
 bm:∀ j,j<k→L[2+d+j * b+1]? = some (bmB (if j=0 then 1 else 0) c)
 tb:∀ j,j<a→L[2+d+j * b+2]? = some zB
theorem bmB_len (u s:Nat):(bmB u s).length=256:=packB_len _
theorem bmB_flat (u s:Nat):(bmB u s).all C.flat=true:=by simp [bmB,packB,C.flat]
theorem mul_step {j k b:Nat} (h:j<k):j * b+b≤k * b:=by
 have:=Nat.mul_le_mul_right b h
 rwa [Nat.succ_mul] at this
theorem Img.step {a b c d k:Nat} {L:List (List C)} (I:Img a b c d k L) (hb:16≤b) (hk:k<a) {x:List C} (xl:x.length=256) (xf:x.all C.flat=true):Img a b c d (k+1) ((L.set (2+d+k * b) x).set (2+d+k * b+1) (bmB (if k=0 then 1 else 0) c)):=by
 have h0:=I.len
 have hs:=mul_step (b:=b) hk
 refine⟨by rw[List.length_set,List.length_set]; exact h0,imB_set (imB_set I.im xl xf _) (bmB_len _ _) (bmB_flat _ _) _,?_,fun j hj=>?_,fun j hj=>?_⟩
 ·rw[List.getElem?_set_ne (by omega),List.getElem?_set_ne (by omega)]
  exact I.de
 ·rcases Nat.lt_or_ge j k with h1|h1
  ·have:=mul_step (b:=b) h1
   rw[List.getElem?_set_ne (by omega),List.getElem?_set_ne (by omega)]
   exact I.bm j h1
  ·obtain rfl:j=k:=by omega
   rw[List.getElem?_set_self (by rw[List.length_set]; omega)]
 ·have h1:j * b+2≠k * b∧j * b+2≠k * b+1:=by
   rcases Nat.lt_trichotomy j k with q|q|q
   ·have:=mul_step (b:=b) q; omega
   ·subst q; omega
   ·have:=mul_step (b:=b) q; omega
  rw[List.getElem?_set_ne (by omega),List.getElem?_set_ne (by omega)]
  exact I.tb j hj
structure Image (a b c d:Nat) (L:List (List C)):Prop where
 len:L.length=2+d+a * b
 im:imB L=true
 de:L[1]? = some (descB a b c)
 bm:∀ j,j<a→L[2+d+j * b+1]? = some (bmB (if j=0 then 1 else 0) c)
 tb:∀ j,j<a→L[2+d+j * b+2]? = some (if j=0 then rootB else zB)
theorem Img.last {a b c d:Nat} {L:List (List C)} (I:Img a b c d a L) (hb:16≤b) (ha:1≤a):Image a b c d (L.set (2+d+2) rootB):=by
 have h0:=I.len
 have h1:=mul_step (b:=b) (show 0<a by omega)
 refine⟨by rw[List.length_set]; exact h0,imB_set I.im rootB_len rootB_flat _,?_,fun j hj=>?_,fun j hj=>?_⟩
 ·rw[List.getElem?_set_ne (by omega)]; exact I.de
 ·have:j * b≠1:=by
   rcases Nat.eq_zero_or_pos j with rfl|q
   ·omega
   ·have:=mul_step (b:=b) q; omega
  rw[List.getElem?_set_ne (by omega)]
  exact I.bm j hj
 ·rcases Nat.eq_zero_or_pos j with rfl|q
  ·rw[Nat.zero_mul,Nat.add_zero,List.getElem?_set_self (by omega),if_pos rfl]
  ·have:=mul_step (b:=b) q
   rw[List.getElem?_set_ne (by omega),if_neg (by omega)]
   exact I.tb j hj
noncomputable def xBm2:Kn1:=fun args h=>match args with
 | [.c (.int .i64 u),.c (.int .i64 z)]=>(natI u).bind fun u=>(natI z).bind fun z=>askB (decide (u≤z)&&decide (z≤2048)) (some (.w (.g (bmB u z)),h))
 | _=>none
noncomputable def xWr:Kn1:=fun args h=>match args with
 | [.c (.int .i64 z),.g x,.c (.int .i64 e),.c (.ptr _ 0),.c (.ptr q 0)]=>(natI z).bind fun i=>match h.get q with
  | some (.row s [[.slice r 0 len w]] _)=>(match h.get r with
   | some (.row s2 L ro)=>askB (Nat.beq s 1&&Nat.beq w 256&&Nat.beq s2 256&&!ro&&decide (e=0)&&Nat.beq x.length 256&&x.all C.flat&&decide (i<len)&&Nat.beq L.length len&&imB L) (some (.tup [],h.put r (.row 256 (L.set i x) false)))
   | _=>none)
  | _=>none
 | _=>none
attribute [go_sem] xBm2 xWr
section
variable (Hh:Hearts K Tryz.prog)
include Hh
theorem xBm2_ok {args:List W} {h h':Go.Ev.H} {v:V} (e:xBm2 args h=some (v,h')):CallOk K Tryz.prog 54 args h v h':=by
 unfold xBm2 at e
 split at e
 ·obtain⟨u,hu,e⟩:=bind_of e
  obtain⟨z,hz,e⟩:=bind_of e
  obtain⟨b,e⟩:=askB_some.1 e
  simp only[Bool.and_eq_true,decide_eq_true_eq] at b
  cases e
  rw[natI_some hu,natI_some hz]
  exact bitmapOk Hh h u z b.1 b.2
 ·cases e
theorem xWr_ok {args:List W} {h h':Go.Ev.H} {v:V} (e:xWr args h=some (v,h')):CallOk K Tryz.prog 48 args h v h':=by
 unfold xWr at e
 split at e
 ·rename_i z x e0 q5 q
  obtain⟨i,hi,e⟩:=bind_of e
  split at e
  ·rename_i s r len w ro heq
   split at e
   ·rename_i s2 L ro2 heq2
    obtain⟨b,e2⟩:=askB_some.1 e
    clear e
    simp only[Bool.and_eq_true,decide_eq_true_eq,Bool.not_eq_true'] at b
    obtain⟨⟨⟨⟨⟨⟨⟨⟨⟨b1,b2⟩,b3⟩,rfl⟩,rfl⟩,b6⟩,xf⟩,il⟩,b9⟩,im⟩:=b
    obtain rfl:=Nat.eq_of_beq_eq_true b1
    obtain rfl:=Nat.eq_of_beq_eq_true b2
    obtain rfl:=Nat.eq_of_beq_eq_true b3
    have xl:=Nat.eq_of_beq_eq_true b6
    have Ll:=Nat.eq_of_beq_eq_true b9
    cases e2
    rw[natI_some hi]
    refine CallOk.tidy ⟨Tryz.f48,Tryz.func48,by kernel_rfl,by decide⟩ fun tidy=>?_
    have l1:=tidy _ _ heq
    have l2:=tidy _ _ heq2
    obtain⟨y,hy⟩:∃ y,L[i]? = some y:=⟨_,List.getElem?_eq_getElem (by omega)⟩
    have yl:=(imB_mem im (List.mem_of_getElem? hy)).1
    have wr:writeRow 256 L (i * 256) x=some (L.set i x):=writeRow_el xl (by omega) hy yl
    obtain⟨v,h',c,rfl,hk⟩:∃ v h',CallOk K Tryz.prog 48 [.c (.int .i64 (i:Int)),.g x,.c (.int .i64 0),.c (.ptr q5 0),.c (.ptr q 0)] h v h'∧v=.tup []∧∀ m,m<h.next→h'.get m=(h.put r (.row 256 (L.set i x) false)).get m:=by
     refine CallOk.goesE fits Hh (by kernel_rfl) (by kernel_rfl) (by kernel_rfl) (show Tryz.f48.body=some _ from rfl) rfl ?_
     repeat (first
      | refine Goes.seq ?_
      | refine Goes.block ?_
      | refine Goes.loop ?_
      | refine Goes.skip ?_
      | refine Goes.exit ?_
      | refine Goes.ret ?_
      | refine Goes.condV (by simp (maxSteps:=9^6) +decide (disch:=first|omega|(simp only[lens]<;>omega)|decide) only [go_sem,loadIn,simprocAttr,heq,heq2,wr,xl,Nat.zero_add,read1,opBox]<;>rfl) ?_
      | refine Goes.ops2 fits Hh E0_sound (by simp (maxSteps:=9^6) +decide (disch:=first|omega|(simp only[lens]<;>omega)|decide) only [go_sem,loadIn,simprocAttr,heq,heq2,wr,xl,Nat.zero_add,read1,opBox]; rfl) ?_)
     exact⟨_,_,(by simp (maxSteps:=9^6) +decide (disch:=first|omega|(simp only[lens]<;>omega)|decide) only [go_sem,loadIn,simprocAttr]<;>rfl),rfl,fun m hm=>by (first|(simp (discharger:=omega) only [H.get_put,H.get_new,H.get_del,H.next_new,H.next_put,H.next_del,if_neg]; done)|(simp only[H.get_put,H.get_new,H.get_del,H.next_new,H.next_put,H.next_del]; (repeat' split)<;>first|rfl|(exfalso; omega)|omega))⟩
    refine c.settle ((NearH.refl tidy).put l2 (low_row fun τ _=>?_)) (LowV.flat rfl) hk
    exact map_flat (fun l hl=>map_flat (fun a ha=>C.ren_flat ha _) hl) (imB_flat (imB_set im xl xf i))
   ·cases e
  ·cases e
 ·cases e
end
end Go.Proofs.YtlbbmhgdcdcdnaaGreatDoor
set_option maxRecDepth 100000
set_option maxHeartbeats 4000000
namespace Go.Proofs.YtlbbmhgdcdcdnaaGreatDoor
open Go.Ev
theorem ty41:K.types.get 41=some ti41:=by kernel_rfl
theorem sz41:ti41.size=11:=by rfl
theorem ag41:ti41.agg=true:=by rfl
theorem de41:ti41.desc=(.array 11 40):=by rfl
theorem ze41:ti41.zero=(.g ((List.replicate 11 (.int .u32 0)))):=by rfl
theorem by41:ti41.bytes=44:=by rfl
theorem eq41 (a b:List C):eqT K 20 41 (.g a) (.g b)=(bif true&&Nat.beq a.length 11&&Nat.beq b.length 11 then eqInts a b else none):=by kernel_rfl
theorem ty43:K.types.get 43=some ti43:=by kernel_rfl
theorem sz43:ti43.size=16:=by rfl
theorem ag43:ti43.agg=true:=by rfl
theorem fo43_0:fieldOf K 43 0=some (0,ti5):=by kernel_rfl
theorem fo43_1:fieldOf K 43 1=some (1,ti3):=by kernel_rfl
theorem fo43_2:fieldOf K 43 2=some (2,ti40):=by kernel_rfl
theorem fo43_3:fieldOf K 43 3=some (3,ti3):=by kernel_rfl
theorem fo43_4:fieldOf K 43 4=some (4,ti41):=by kernel_rfl
theorem fo43_5:fieldOf K 43 5=some (15,ti40):=by kernel_rfl
theorem bu43 (ps:List (Nat × W)):opBuild K 43 (some ps)=gW (fillStruct K 43 ps ti43.zero.cells):=by kernel_rfl
theorem ze43:ti43.zero=(.g ([.int .u8 0,.int .i64 0,.int .u32 0,.int .i64 0,.int .u32 0,.int .u32 0,.int .u32 0,.int .u32 0,.int .u32 0,.int .u32 0,.int .u32 0,.int .u32 0,.int .u32 0,.int .u32 0,.int .u32 0,.int .u32 0])):=by rfl
theorem by43:ti43.bytes=80:=by rfl
theorem ty109:K.types.get 109=some ti109:=by kernel_rfl
theorem sz109:ti109.size=2:=by rfl
theorem ag109:ti109.agg=true:=by rfl
theorem fo109_0:fieldOf K 109 0=some (0,ti40):=by kernel_rfl
theorem fo109_1:fieldOf K 109 1=some (1,ti3):=by kernel_rfl
theorem bu109 (ps:List (Nat × W)):opBuild K 109 (some ps)=gW (fillStruct K 109 ps ti109.zero.cells):=by kernel_rfl
theorem ze109:ti109.zero=(.g ([.int .u32 0,.int .i64 0])):=by rfl
theorem by109:ti109.bytes=16:=by rfl
attribute [go_sem] ty41 sz41 ag41 de41 ze41 by41 eq41 ty43 sz43 ag43 fo43_0 fo43_1 fo43_2 fo43_3 fo43_4 fo43_5 bu43 ze43 by43 ty109 sz109 ag109 fo109_0 fo109_1 bu109 ze109 by109
noncomputable def q16 (p:List Nat):Code:=piece p (bodyOf Tryz.f16)
theorem q16_:q16 []=.seq (q16 [0]) (q16 [1]):=by kernel_rfl
theorem q16_0:q16 [0]=.region 0 (opsA (q16 [0])) false:=by kernel_rfl
theorem q16_1:q16 [1]=.seq (q16 [1,0]) (q16 [1,1]):=by kernel_rfl
theorem q16_10:q16 [1,0]=.seq (q16 [1,0,0]) (q16 [1,0,1]):=by kernel_rfl
theorem q16_100:q16 [1,0,0]=.region 1 (opsA (q16 [1,0,0])) false:=by kernel_rfl
theorem q16_101:q16 [1,0,1]=.cond (.tmp 18) (q16 [1,0,1,3]) (q16 [1,0,1,4]):=by kernel_rfl
theorem q16_1014:q16 [1,0,1,4]=.skip:=by kernel_rfl
theorem q16_11:q16 [1,1]=.seq (q16 [1,1,0]) (q16 [1,1,1]):=by kernel_rfl
theorem q16_110:q16 [1,1,0]=.region 3 (opsA (q16 [1,1,0])) false:=by kernel_rfl
theorem q16_111:q16 [1,1,1]=.seq (q16 [1,1,1,0]) (q16 [1,1,1,1]):=by kernel_rfl
theorem q16_1110:q16 [1,1,1,0]=.region 4 (opsA (q16 [1,1,1,0])) false:=by kernel_rfl
theorem q16_1111:q16 [1,1,1,1]=.seq (q16 [1,1,1,1,0]) (q16 [1,1,1,1,1]):=by kernel_rfl
theorem q16_11110:q16 [1,1,1,1,0]=.region 5 (opsA (q16 [1,1,1,1,0])) false:=by kernel_rfl
theorem q16_11111:q16 [1,1,1,1,1]=.seq (q16 [1,1,1,1,1,0]) (q16 [1,1,1,1,1,1]):=by kernel_rfl
theorem q16_111110:q16 [1,1,1,1,1,0]=.region 6 (opsA (q16 [1,1,1,1,1,0])) false:=by kernel_rfl
theorem q16_111111:q16 [1,1,1,1,1,1]=.seq (q16 [1,1,1,1,1,1,0]) (q16 [1,1,1,1,1,1,1]):=by kernel_rfl
theorem q16_1111110:q16 [1,1,1,1,1,1,0]=.region 7 (opsA (q16 [1,1,1,1,1,1,0])) false:=by kernel_rfl
theorem q16_1111111:q16 [1,1,1,1,1,1,1]=.seq (q16 [1,1,1,1,1,1,1,0]) (q16 [1,1,1,1,1,1,1,1]):=by kernel_rfl
theorem q16_11111110:q16 [1,1,1,1,1,1,1,0]=.region 8 (opsA (q16 [1,1,1,1,1,1,1,0])) true:=by kernel_rfl
theorem q16_11111111:q16 [1,1,1,1,1,1,1,1]=.seq (q16 [1,1,1,1,1,1,1,1,0]) (q16 [1,1,1,1,1,1,1,1,1]):=by kernel_rfl
theorem q16_111111110:q16 [1,1,1,1,1,1,1,1,0]=.region 9 (opsA (q16 [1,1,1,1,1,1,1,1,0])) false:=by kernel_rfl
theorem q16_111111111:q16 [1,1,1,1,1,1,1,1,1]=.seq (q16 [1,1,1,1,1,1,1,1,1,0]) (q16 [1,1,1,1,1,1,1,1,1,1]):=by kernel_rfl
theorem q16_1111111110:q16 [1,1,1,1,1,1,1,1,1,0]=.region 10 (opsA (q16 [1,1,1,1,1,1,1,1,1,0])) false:=by kernel_rfl
theorem q16_1111111111:q16 [1,1,1,1,1,1,1,1,1,1]=.seq (q16 [1,1,1,1,1,1,1,1,1,1,0]) (q16 [1,1,1,1,1,1,1,1,1,1,1]):=by kernel_rfl
theorem q16_11111111110:q16 [1,1,1,1,1,1,1,1,1,1,0]=.region 11 (opsA (q16 [1,1,1,1,1,1,1,1,1,1,0])) false:=by kernel_rfl
theorem q16_11111111111:q16 [1,1,1,1,1,1,1,1,1,1,1]=.seq (q16 [1,1,1,1,1,1,1,1,1,1,1,0]) (q16 [1,1,1,1,1,1,1,1,1,1,1,1]):=by kernel_rfl
theorem q16_111111111110:q16 [1,1,1,1,1,1,1,1,1,1,1,0]=.seq (q16 [1,1,1,1,1,1,1,1,1,1,1,0,0]) (q16 [1,1,1,1,1,1,1,1,1,1,1,0,1]):=by kernel_rfl
theorem q16_1111111111100:q16 [1,1,1,1,1,1,1,1,1,1,1,0,0]=.region 12 (opsA (q16 [1,1,1,1,1,1,1,1,1,1,1,0,0])) false:=by kernel_rfl
theorem q16_1111111111101:q16 [1,1,1,1,1,1,1,1,1,1,1,0,1]=.block 0 (q16 [1,1,1,1,1,1,1,1,1,1,1,0,1,2]):=by kernel_rfl
theorem q16_11111111111012:q16 [1,1,1,1,1,1,1,1,1,1,1,0,1,2]=.loop (q16 [1,1,1,1,1,1,1,1,1,1,1,0,1,2,2]):=by kernel_rfl
theorem q16_111111111110122:q16 [1,1,1,1,1,1,1,1,1,1,1,0,1,2,2]=.seq (q16 [1,1,1,1,1,1,1,1,1,1,1,0,1,2,2,0]) (q16 [1,1,1,1,1,1,1,1,1,1,1,0,1,2,2,1]):=by kernel_rfl
theorem q16_1111111111101220:q16 [1,1,1,1,1,1,1,1,1,1,1,0,1,2,2,0]=.region 13 (opsA (q16 [1,1,1,1,1,1,1,1,1,1,1,0,1,2,2,0])) false:=by kernel_rfl
theorem q16_1111111111101221:q16 [1,1,1,1,1,1,1,1,1,1,1,0,1,2,2,1]=.seq (q16 [1,1,1,1,1,1,1,1,1,1,1,0,1,2,2,1,0]) (q16 [1,1,1,1,1,1,1,1,1,1,1,0,1,2,2,1,1]):=by kernel_rfl
theorem q16_11111111111012210:q16 [1,1,1,1,1,1,1,1,1,1,1,0,1,2,2,1,0]=.cond (.tmp 56) (q16 [1,1,1,1,1,1,1,1,1,1,1,0,1,2,2,1,0,3]) (q16 [1,1,1,1,1,1,1,1,1,1,1,0,1,2,2,1,0,4]):=by kernel_rfl
theorem q16_111111111110122103:q16 [1,1,1,1,1,1,1,1,1,1,1,0,1,2,2,1,0,3]=.skip:=by kernel_rfl
theorem q16_111111111110122104:q16 [1,1,1,1,1,1,1,1,1,1,1,0,1,2,2,1,0,4]=.exit 0:=by kernel_rfl
theorem q16_11111111111012211:q16 [1,1,1,1,1,1,1,1,1,1,1,0,1,2,2,1,1]=.seq (q16 [1,1,1,1,1,1,1,1,1,1,1,0,1,2,2,1,1,0]) (q16 [1,1,1,1,1,1,1,1,1,1,1,0,1,2,2,1,1,1]):=by kernel_rfl
theorem q16_111111111110122110:q16 [1,1,1,1,1,1,1,1,1,1,1,0,1,2,2,1,1,0]=.block 1 (q16 [1,1,1,1,1,1,1,1,1,1,1,0,1,2,2,1,1,0,2]):=by kernel_rfl
theorem q16_1111111111101221102:q16 [1,1,1,1,1,1,1,1,1,1,1,0,1,2,2,1,1,0,2]=.seq (q16 [1,1,1,1,1,1,1,1,1,1,1,0,1,2,2,1,1,0,2,0]) (q16 [1,1,1,1,1,1,1,1,1,1,1,0,1,2,2,1,1,0,2,1]):=by kernel_rfl
theorem q16_11111111111012211020:q16 [1,1,1,1,1,1,1,1,1,1,1,0,1,2,2,1,1,0,2,0]=.region 14 (opsA (q16 [1,1,1,1,1,1,1,1,1,1,1,0,1,2,2,1,1,0,2,0])) false:=by kernel_rfl
theorem q16_11111111111012211021:q16 [1,1,1,1,1,1,1,1,1,1,1,0,1,2,2,1,1,0,2,1]=.seq (q16 [1,1,1,1,1,1,1,1,1,1,1,0,1,2,2,1,1,0,2,1,0]) (q16 [1,1,1,1,1,1,1,1,1,1,1,0,1,2,2,1,1,0,2,1,1]):=by kernel_rfl
theorem q16_111111111110122110210:q16 [1,1,1,1,1,1,1,1,1,1,1,0,1,2,2,1,1,0,2,1,0]=.region 15 (opsA (q16 [1,1,1,1,1,1,1,1,1,1,1,0,1,2,2,1,1,0,2,1,0])) false:=by kernel_rfl
theorem q16_111111111110122110211:q16 [1,1,1,1,1,1,1,1,1,1,1,0,1,2,2,1,1,0,2,1,1]=.seq (q16 [1,1,1,1,1,1,1,1,1,1,1,0,1,2,2,1,1,0,2,1,1,0]) (q16 [1,1,1,1,1,1,1,1,1,1,1,0,1,2,2,1,1,0,2,1,1,1]):=by kernel_rfl
theorem q16_1111111111101221102110:q16 [1,1,1,1,1,1,1,1,1,1,1,0,1,2,2,1,1,0,2,1,1,0]=.region 16 (opsA (q16 [1,1,1,1,1,1,1,1,1,1,1,0,1,2,2,1,1,0,2,1,1,0])) false:=by kernel_rfl
theorem q16_1111111111101221102111:q16 [1,1,1,1,1,1,1,1,1,1,1,0,1,2,2,1,1,0,2,1,1,1]=.seq (q16 [1,1,1,1,1,1,1,1,1,1,1,0,1,2,2,1,1,0,2,1,1,1,0]) (q16 [1,1,1,1,1,1,1,1,1,1,1,0,1,2,2,1,1,0,2,1,1,1,1]):=by kernel_rfl
theorem q16_11111111111012211021110:q16 [1,1,1,1,1,1,1,1,1,1,1,0,1,2,2,1,1,0,2,1,1,1,0]=.region 17 (opsA (q16 [1,1,1,1,1,1,1,1,1,1,1,0,1,2,2,1,1,0,2,1,1,1,0])) false:=by kernel_rfl
theorem q16_11111111111012211021111:q16 [1,1,1,1,1,1,1,1,1,1,1,0,1,2,2,1,1,0,2,1,1,1,1]=.seq (q16 [1,1,1,1,1,1,1,1,1,1,1,0,1,2,2,1,1,0,2,1,1,1,1,0]) (q16 [1,1,1,1,1,1,1,1,1,1,1,0,1,2,2,1,1,0,2,1,1,1,1,1]):=by kernel_rfl
theorem q16_111111111110122110211110:q16 [1,1,1,1,1,1,1,1,1,1,1,0,1,2,2,1,1,0,2,1,1,1,1,0]=.seq (q16 [1,1,1,1,1,1,1,1,1,1,1,0,1,2,2,1,1,0,2,1,1,1,1,0,0]) (q16 [1,1,1,1,1,1,1,1,1,1,1,0,1,2,2,1,1,0,2,1,1,1,1,0,1]):=by kernel_rfl
theorem q16_1111111111101221102111100:q16 [1,1,1,1,1,1,1,1,1,1,1,0,1,2,2,1,1,0,2,1,1,1,1,0,0]=.region 18 (opsA (q16 [1,1,1,1,1,1,1,1,1,1,1,0,1,2,2,1,1,0,2,1,1,1,1,0,0])) false:=by kernel_rfl
theorem q16_1111111111101221102111101:q16 [1,1,1,1,1,1,1,1,1,1,1,0,1,2,2,1,1,0,2,1,1,1,1,0,1]=.cond (.tmp 75) (q16 [1,1,1,1,1,1,1,1,1,1,1,0,1,2,2,1,1,0,2,1,1,1,1,0,1,3]) (q16 [1,1,1,1,1,1,1,1,1,1,1,0,1,2,2,1,1,0,2,1,1,1,1,0,1,4]):=by kernel_rfl
theorem q16_11111111111012211021111013:q16 [1,1,1,1,1,1,1,1,1,1,1,0,1,2,2,1,1,0,2,1,1,1,1,0,1,3]=.region 19 (opsA (q16 [1,1,1,1,1,1,1,1,1,1,1,0,1,2,2,1,1,0,2,1,1,1,1,0,1,3])) false:=by kernel_rfl
theorem q16_11111111111012211021111014:q16 [1,1,1,1,1,1,1,1,1,1,1,0,1,2,2,1,1,0,2,1,1,1,1,0,1,4]=.skip:=by kernel_rfl
theorem q16_111111111110122110211111:q16 [1,1,1,1,1,1,1,1,1,1,1,0,1,2,2,1,1,0,2,1,1,1,1,1]=.region 20 (opsA (q16 [1,1,1,1,1,1,1,1,1,1,1,0,1,2,2,1,1,0,2,1,1,1,1,1])) false:=by kernel_rfl
theorem q16_111111111110122111:q16 [1,1,1,1,1,1,1,1,1,1,1,0,1,2,2,1,1,1]=.region 21 (opsA (q16 [1,1,1,1,1,1,1,1,1,1,1,0,1,2,2,1,1,1])) false:=by kernel_rfl
theorem q16_111111111111:q16 [1,1,1,1,1,1,1,1,1,1,1,1]=.seq (q16 [1,1,1,1,1,1,1,1,1,1,1,1,0]) (q16 [1,1,1,1,1,1,1,1,1,1,1,1,1]):=by kernel_rfl
theorem q16_1111111111110:q16 [1,1,1,1,1,1,1,1,1,1,1,1,0]=.region 22 (opsA (q16 [1,1,1,1,1,1,1,1,1,1,1,1,0])) false:=by kernel_rfl
theorem q16_1111111111111:q16 [1,1,1,1,1,1,1,1,1,1,1,1,1]=.seq (q16 [1,1,1,1,1,1,1,1,1,1,1,1,1,0]) (q16 [1,1,1,1,1,1,1,1,1,1,1,1,1,1]):=by kernel_rfl
theorem q16_11111111111110:q16 [1,1,1,1,1,1,1,1,1,1,1,1,1,0]=.region 23 (opsA (q16 [1,1,1,1,1,1,1,1,1,1,1,1,1,0])) false:=by kernel_rfl
theorem q16_11111111111111:q16 [1,1,1,1,1,1,1,1,1,1,1,1,1,1]=.seq (q16 [1,1,1,1,1,1,1,1,1,1,1,1,1,1,0]) (q16 [1,1,1,1,1,1,1,1,1,1,1,1,1,1,1]):=by kernel_rfl
theorem q16_111111111111110:q16 [1,1,1,1,1,1,1,1,1,1,1,1,1,1,0]=.region 24 (opsA (q16 [1,1,1,1,1,1,1,1,1,1,1,1,1,1,0])) false:=by kernel_rfl
theorem q16_111111111111111:q16 [1,1,1,1,1,1,1,1,1,1,1,1,1,1,1]=.seq (q16 [1,1,1,1,1,1,1,1,1,1,1,1,1,1,1,0]) (q16 [1,1,1,1,1,1,1,1,1,1,1,1,1,1,1,1]):=by kernel_rfl
theorem q16_1111111111111110:q16 [1,1,1,1,1,1,1,1,1,1,1,1,1,1,1,0]=.region 25 (opsA (q16 [1,1,1,1,1,1,1,1,1,1,1,1,1,1,1,0])) false:=by kernel_rfl
theorem q16_1111111111111111:q16 [1,1,1,1,1,1,1,1,1,1,1,1,1,1,1,1]=.seq (q16 [1,1,1,1,1,1,1,1,1,1,1,1,1,1,1,1,0]) (q16 [1,1,1,1,1,1,1,1,1,1,1,1,1,1,1,1,1]):=by kernel_rfl
theorem q16_11111111111111110:q16 [1,1,1,1,1,1,1,1,1,1,1,1,1,1,1,1,0]=.seq (q16 [1,1,1,1,1,1,1,1,1,1,1,1,1,1,1,1,0,0]) (q16 [1,1,1,1,1,1,1,1,1,1,1,1,1,1,1,1,0,1]):=by kernel_rfl
theorem q16_111111111111111100:q16 [1,1,1,1,1,1,1,1,1,1,1,1,1,1,1,1,0,0]=.region 26 (opsA (q16 [1,1,1,1,1,1,1,1,1,1,1,1,1,1,1,1,0,0])) false:=by kernel_rfl
theorem q16_111111111111111101:q16 [1,1,1,1,1,1,1,1,1,1,1,1,1,1,1,1,0,1]=.cond (.tmp 101) (q16 [1,1,1,1,1,1,1,1,1,1,1,1,1,1,1,1,0,1,3]) (q16 [1,1,1,1,1,1,1,1,1,1,1,1,1,1,1,1,0,1,4]):=by kernel_rfl
theorem q16_1111111111111111014:q16 [1,1,1,1,1,1,1,1,1,1,1,1,1,1,1,1,0,1,4]=.skip:=by kernel_rfl
theorem q16_11111111111111111:q16 [1,1,1,1,1,1,1,1,1,1,1,1,1,1,1,1,1]=.seq (q16 [1,1,1,1,1,1,1,1,1,1,1,1,1,1,1,1,1,0]) (q16 [1,1,1,1,1,1,1,1,1,1,1,1,1,1,1,1,1,1]):=by kernel_rfl
theorem q16_111111111111111110:q16 [1,1,1,1,1,1,1,1,1,1,1,1,1,1,1,1,1,0]=.region 28 (opsA (q16 [1,1,1,1,1,1,1,1,1,1,1,1,1,1,1,1,1,0])) false:=by kernel_rfl
theorem q16_111111111111111111:q16 [1,1,1,1,1,1,1,1,1,1,1,1,1,1,1,1,1,1]=.ret:=by kernel_rfl
theorem rs16:Tryz.f16.results.toList=[.tmp 2,.tmp 3]:=rfl
attribute [go_sem] rs16
theorem firstD_len {a b c:Nat} (h:1≤a):(firstD a b c).length=a:=by
 rw[firstD,List.length_cons,List.length_replicate]
 omega
theorem firstD_may {a b c:Nat} (h:1≤c):(firstD a b c).all (mayD (b - 2 - c / 4) c)=true:=by
 refine List.all_eq_true.2 fun x hx=>?_
 rcases List.mem_cons.1 hx with rfl|hx
 ·simp only[mayD]
  rw[ble_t (Nat.le_refl _),ble_t (by omega),ble_t (by omega)]
  rfl
 ·obtain rfl:=(List.mem_replicate.1 hx).2
  simp only[mayD]
  rw[ble_t (Nat.le_refl _),ble_t (Nat.le_refl _),ble_t (by omega)]
  rfl
theorem desN_len:∀ (D:List Desc) (i:Nat) (x:List Nat),(desN D i x).length=x.length
 | [],_,_=>rfl
 | d :: D,i,x=>by rw[desN,desN_len D,des_len]
theorem descB_len (a b c:Nat):(descB a b c).length=256:=by
 rw[descB,pg_len,sealN,put4_len,desN_len]
 exact zer_len
theorem descB_flat (a b c:Nat):(descB a b c).all C.flat=true:=flat_pg _
section
variable (Hh:Hearts K Tryz.prog)
include Hh
theorem mkLoop {a b c d n N:Nat} (f:fineB a b c d=true) (hN:2+d+a * b=N):∀ (j k:Nat) (L:List (List C)) (ts:Tmps) (h:Go.Ev.H),k+j=a→Img a b c d k L→h.get n=some (.row 4 [[.int .i64 (a:Int),.int .i64 (b:Int),.int .i64 (c:Int),.int .i64 (d:Int)]] false)→h.get (n+1)=some (.row 256 L false)→h.get (n+1+1)=some (.row 1 [[.slice (n+1) 0 N 256]] false) →
  evalT ts 1=.w (.c (.ptr n 0))→evalT ts 6=.w (.c (.fn 48 [] [some (n+1+1+1,0),some (n+1+1,0)]))→evalT ts 54=.w (.c (.int .i64 (a:Int)))→evalT ts 55=.w (.c (.int .i64 (k:Int))) →
  Goes K Tryz.prog 104 none (q16 [1,1,1,1,1,1,1,1,1,1,1,0,1,2]) [] ts h fun x ds' ts' h'=>x=.exit 0∧ds'=[]∧h'.next=h.next∧(∃ L',Img a b c d a L'∧h'.get (n+1)=some (.row 256 L' false))∧(∀ m,m≠n+1→h'.get m=h.get m)∧∀ s,s≤8→evalT ts' s=evalT ts s:=by
 obtain⟨g1,g2,g3,g4,g5,g6,g7,g8,g9,g10,g11⟩:=fineB_fine f
 intro j
 induction j with
 | zero =>
  intro k L ts h hk I hg hL hs h1 h6 h54 h55
  obtain rfl:k=a:=by omega
  refine Goes.loopQ q16_11111111111012 (Goes.loop ?_)
  refine Goes.seqQ q16_111111111110122 ?_
  refine Goes.opsQ q16_1111111111101220 fits Hh E0_sound (by
   simp (maxSteps:=9^6) +decide (disch:=first|omega|(simp only[lens]<;>omega)|decide) only [go_sem,q16,Tryz.f16,readRow,loadIn,simprocAttr,h54,h55]
   rfl) ?_
  refine Goes.seqQ q16_1111111111101221 ?_
  refine Goes.condFQ q16_11111111111012210 (by simp (maxSteps:=9^6) +decide (disch:=first|omega|(simp only[lens]<;>omega)|decide) only [go_sem,readRow,loadIn,simprocAttr,h54,h55]<;>rfl) (by first|rfl|assumption|exact decide_eq_false (by omega)|(simp; omega)) ?_
  refine Goes.exitQ q16_111111111110122104 ?_
  refine⟨rfl,rfl,rfl,⟨L,I,hL⟩,fun _ _=>rfl,fun s hs=>?_⟩
  simp (decide:=true) only [evalT_low hs]
 | succ j ih =>
  intro k L ts h hk I hg hL hs h1 h6 h54 h55
  have ka:k<a:=by omega
  have Ll:L.length=N:=by rw[I.len,hN]
  have im:=I.im
  have st:=mul_step (b:=b) ka
  have bx:=bmB_len (2+c / 4) b
  have bxf:=bmB_flat (2+c / 4) b
  have e1:((2+d+k * b:Nat):Int)+1=((2+d+k * b+1:Nat):Int):=rfl
  have e2:(2:Int)+((c / 4:Nat):Int)=((2+c / 4:Nat):Int):=rfl
  have e3:(k:Int)+1=((k+1:Nat):Int):=rfl
  have q1:opQuo .i64 (c:Int) 4=some (.int .i64 ((c / 4:Nat):Int)):=quo_nat (b:=4) (by omega) (by omega)
  have i1:imB (L.set (2+d+k * b) (bmB (2+c / 4) b))=true:=imB_set im bx bxf _
  have I2:=I.step g3 ka bx bxf
  obtain⟨z,hz⟩:∃ z,2+d+k * b=z:=⟨_,rfl⟩
  rw[hz] at e1 i1 I2
  by_cases k0:k=0
  ·rw[if_pos k0] at I2
   have bl:=bmB_len 1 c
   have bf:=bmB_flat 1 c
   refine Goes.loopQ q16_11111111111012 (Goes.loop ?_)
   refine Goes.seqQ q16_111111111110122 ?_
   refine Goes.opsQ q16_1111111111101220 fits Hh E0_sound (by
    simp (maxSteps:=9^6) +decide (disch:=first|omega|(simp only[lens]<;>omega)|decide) only [go_sem,q16,Tryz.f16,readRow,loadIn,simprocAttr,f,hg,hL,hs,h1,h6,h54,h55,hz,e1,e2,e3,q1,Ll,im,i1,bx,bxf,bl,bf,List.length_set,List.map_cons,ptrW,List.cons_append,read1]
    rfl) ?_
   refine Goes.seqQ q16_1111111111101221 ?_
   refine Goes.condTQ q16_11111111111012210 (by simp (maxSteps:=9^6) +decide (disch:=first|omega|(simp only[lens]<;>omega)|decide) only [go_sem,readRow,loadIn,simprocAttr,f,hg,hL,hs,h1,h6,h54,h55,hz,e1,e2,e3,q1,Ll,im,i1,bx,bxf,bl,bf,List.length_set,List.map_cons,ptrW,List.cons_append,read1]<;>rfl) (by first|rfl|assumption|exact decide_eq_true (by omega)|(simp; omega)) ?_
   refine Goes.skipQ q16_111111111110122103 ?_
   refine Goes.seqQ q16_11111111111012211 ?_
   refine Goes.blockQ q16_111111111110122110 (Goes.block ?_)
   refine Goes.seqQ q16_1111111111101221102 ?_
   refine Goes.opsQ q16_11111111111012211020 fits Hh E0_sound (by
    simp (maxSteps:=9^6) +decide (disch:=first|omega|(simp only[lens]<;>omega)|decide) only [go_sem,q16,Tryz.f16,readRow,loadIn,simprocAttr,f,hg,hL,hs,h1,h6,h54,h55,hz,e1,e2,e3,q1,Ll,im,i1,bx,bxf,bl,bf,List.length_set,List.map_cons,ptrW,List.cons_append,read1]
    rfl) ?_
   refine Goes.seqQ q16_11111111111012211021 ?_
   refine Goes.opsQ q16_111111111110122110210 fits Hh (EX_sound E0_sound (fun _ _ _ _=>xgStart_ok Hh)) (by
    simp (maxSteps:=9^6) +decide (disch:=first|omega|(simp only[lens]<;>omega)|decide) only [go_sem,q16,Tryz.f16,readRow,loadIn,simprocAttr,f,hg,hL,hs,h1,h6,h54,h55,hz,e1,e2,e3,q1,Ll,im,i1,bx,bxf,bl,bf,List.length_set,List.map_cons,ptrW,List.cons_append,read1]
    rfl) ?_
   refine Goes.seqQ q16_111111111110122110211 ?_
   refine Goes.opsQ q16_1111111111101221102110 fits Hh (EX_sound (EX_sound E0_sound (fun _ _ _ _=>xBm2_ok Hh)) (fun _ _ _ _=>xWr_ok Hh)) (by
    simp (maxSteps:=9^6) +decide (disch:=first|omega|(simp only[lens]<;>omega)|decide) only [go_sem,q16,Tryz.f16,readRow,loadIn,simprocAttr,f,hg,hL,hs,h1,h6,h54,h55,hz,e1,e2,e3,q1,Ll,im,i1,bx,bxf,bl,bf,List.length_set,List.map_cons,ptrW,List.cons_append,read1]
    rfl) ?_
   refine Goes.seqQ q16_1111111111101221102111 ?_
   refine Goes.opsQ q16_11111111111012211021110 fits Hh E0_sound (by
    simp (maxSteps:=9^6) +decide (disch:=first|omega|(simp only[lens]<;>omega)|decide) only [go_sem,q16,Tryz.f16,readRow,loadIn,simprocAttr,f,hg,hL,hs,h1,h6,h54,h55,hz,e1,e2,e3,q1,Ll,im,i1,bx,bxf,bl,bf,List.length_set,List.map_cons,ptrW,List.cons_append,read1]
    rfl) ?_
   refine Goes.seqQ q16_11111111111012211021111 ?_
   refine Goes.seqQ q16_111111111110122110211110 ?_
   refine Goes.opsQ q16_1111111111101221102111100 fits Hh E0_sound (by
    simp (maxSteps:=9^6) +decide (disch:=first|omega|(simp only[lens]<;>omega)|decide) only [go_sem,q16,Tryz.f16,readRow,loadIn,simprocAttr,f,hg,hL,hs,h1,h6,h54,h55,hz,e1,e2,e3,q1,Ll,im,i1,bx,bxf,bl,bf,List.length_set,List.map_cons,ptrW,List.cons_append,read1]
    rfl) ?_
   refine Goes.condTQ q16_1111111111101221102111101 (by simp (maxSteps:=9^6) +decide (disch:=first|omega|(simp only[lens]<;>omega)|decide) only [go_sem,readRow,loadIn,simprocAttr,f,hg,hL,hs,h1,h6,h54,h55,hz,e1,e2,e3,q1,Ll,im,i1,bx,bxf,bl,bf,List.length_set,List.map_cons,ptrW,List.cons_append,read1]<;>rfl) (by first|rfl|assumption|exact decide_eq_true (by omega)|(simp; omega)) ?_
   refine Goes.opsQ q16_11111111111012211021111013 fits Hh E0_sound (by
    simp (maxSteps:=9^6) +decide (disch:=first|omega|(simp only[lens]<;>omega)|decide) only [go_sem,q16,Tryz.f16,readRow,loadIn,simprocAttr,f,hg,hL,hs,h1,h6,h54,h55,hz,e1,e2,e3,q1,Ll,im,i1,bx,bxf,bl,bf,List.length_set,List.map_cons,ptrW,List.cons_append,read1]
    rfl) ?_
   refine Goes.opsQ q16_111111111110122110211111 fits Hh (EX_sound (EX_sound E0_sound (fun _ _ _ _=>xBm2_ok Hh)) (fun _ _ _ _=>xWr_ok Hh)) (by
    simp (maxSteps:=9^6) +decide (disch:=first|omega|(simp only[lens]<;>omega)|decide) only [go_sem,q16,Tryz.f16,readRow,loadIn,simprocAttr,f,hg,hL,hs,h1,h6,h54,h55,hz,e1,e2,e3,q1,Ll,im,i1,bx,bxf,bl,bf,List.length_set,List.map_cons,ptrW,List.cons_append,read1]
    rfl) ?_
   refine Goes.opsQ q16_111111111110122111 fits Hh E0_sound (by
    simp (maxSteps:=9^6) +decide (disch:=first|omega|(simp only[lens]<;>omega)|decide) only [go_sem,q16,Tryz.f16,readRow,loadIn,simprocAttr,f,hg,hL,hs,h1,h6,h54,h55,hz,e1,e2,e3,q1,Ll,im,i1,bx,bxf,bl,bf,List.length_set,List.map_cons,ptrW,List.cons_append,read1]
    rfl) ?_
   show Goes K Tryz.prog 104 none (.loop (q16 [1,1,1,1,1,1,1,1,1,1,1,0,1,2,2])) _ _ _ _
   rw[←q16_11111111111012]
   refine (ih (k+1) _ _ _ (by omega) I2 ?_ ?_ ?_ ?_ ?_ ?_ ?_).mono ?_
   ·rw[get_put_ne (by omega),get_put_ne (by omega)]; exact hg
   ·rw[get_put_self]
   ·rw[get_put_ne (by omega),get_put_ne (by omega)]; exact hs
   ·simp (decide:=true) only [evalT_set,reduceIte,h1]
   ·simp (decide:=true) only [evalT_set,reduceIte,h6]
   ·simp (decide:=true) only [evalT_set,reduceIte,h54]
   ·simp (decide:=true) only [evalT_set,reduceIte]<;>rfl
   rintro x ds' ts' h' ⟨r1,r2,r3,r4,r5,r6⟩
   refine⟨r1,r2,r3,r4,fun m hm=>(r5 m hm).trans (by rw[get_put_ne hm,get_put_ne hm]),fun s hs=>(r6 s hs).trans ?_⟩
   simp (decide:=true) only [evalT_low hs]
  ·rw[if_neg k0] at I2
   have bl:=bmB_len 0 c
   have bf:=bmB_flat 0 c
   refine Goes.loopQ q16_11111111111012 (Goes.loop ?_)
   refine Goes.seqQ q16_111111111110122 ?_
   refine Goes.opsQ q16_1111111111101220 fits Hh E0_sound (by
    simp (maxSteps:=9^6) +decide (disch:=first|omega|(simp only[lens]<;>omega)|decide) only [go_sem,q16,Tryz.f16,readRow,loadIn,simprocAttr,f,hg,hL,hs,h1,h6,h54,h55,hz,e1,e2,e3,q1,Ll,im,i1,bx,bxf,bl,bf,List.length_set,List.map_cons,ptrW,List.cons_append,read1]
    rfl) ?_
   refine Goes.seqQ q16_1111111111101221 ?_
   refine Goes.condTQ q16_11111111111012210 (by simp (maxSteps:=9^6) +decide (disch:=first|omega|(simp only[lens]<;>omega)|decide) only [go_sem,readRow,loadIn,simprocAttr,f,hg,hL,hs,h1,h6,h54,h55,hz,e1,e2,e3,q1,Ll,im,i1,bx,bxf,bl,bf,List.length_set,List.map_cons,ptrW,List.cons_append,read1]<;>rfl) (by first|rfl|assumption|exact decide_eq_true (by omega)|(simp; omega)) ?_
   refine Goes.skipQ q16_111111111110122103 ?_
   refine Goes.seqQ q16_11111111111012211 ?_
   refine Goes.blockQ q16_111111111110122110 (Goes.block ?_)
   refine Goes.seqQ q16_1111111111101221102 ?_
   refine Goes.opsQ q16_11111111111012211020 fits Hh E0_sound (by
    simp (maxSteps:=9^6) +decide (disch:=first|omega|(simp only[lens]<;>omega)|decide) only [go_sem,q16,Tryz.f16,readRow,loadIn,simprocAttr,f,hg,hL,hs,h1,h6,h54,h55,hz,e1,e2,e3,q1,Ll,im,i1,bx,bxf,bl,bf,List.length_set,List.map_cons,ptrW,List.cons_append,read1]
    rfl) ?_
   refine Goes.seqQ q16_11111111111012211021 ?_
   refine Goes.opsQ q16_111111111110122110210 fits Hh (EX_sound E0_sound (fun _ _ _ _=>xgStart_ok Hh)) (by
    simp (maxSteps:=9^6) +decide (disch:=first|omega|(simp only[lens]<;>omega)|decide) only [go_sem,q16,Tryz.f16,readRow,loadIn,simprocAttr,f,hg,hL,hs,h1,h6,h54,h55,hz,e1,e2,e3,q1,Ll,im,i1,bx,bxf,bl,bf,List.length_set,List.map_cons,ptrW,List.cons_append,read1]
    rfl) ?_
   refine Goes.seqQ q16_111111111110122110211 ?_
   refine Goes.opsQ q16_1111111111101221102110 fits Hh (EX_sound (EX_sound E0_sound (fun _ _ _ _=>xBm2_ok Hh)) (fun _ _ _ _=>xWr_ok Hh)) (by
    simp (maxSteps:=9^6) +decide (disch:=first|omega|(simp only[lens]<;>omega)|decide) only [go_sem,q16,Tryz.f16,readRow,loadIn,simprocAttr,f,hg,hL,hs,h1,h6,h54,h55,hz,e1,e2,e3,q1,Ll,im,i1,bx,bxf,bl,bf,List.length_set,List.map_cons,ptrW,List.cons_append,read1]
    rfl) ?_
   refine Goes.seqQ q16_1111111111101221102111 ?_
   refine Goes.opsQ q16_11111111111012211021110 fits Hh E0_sound (by
    simp (maxSteps:=9^6) +decide (disch:=first|omega|(simp only[lens]<;>omega)|decide) only [go_sem,q16,Tryz.f16,readRow,loadIn,simprocAttr,f,hg,hL,hs,h1,h6,h54,h55,hz,e1,e2,e3,q1,Ll,im,i1,bx,bxf,bl,bf,List.length_set,List.map_cons,ptrW,List.cons_append,read1]
    rfl) ?_
   refine Goes.seqQ q16_11111111111012211021111 ?_
   refine Goes.seqQ q16_111111111110122110211110 ?_
   refine Goes.opsQ q16_1111111111101221102111100 fits Hh E0_sound (by
    simp (maxSteps:=9^6) +decide (disch:=first|omega|(simp only[lens]<;>omega)|decide) only [go_sem,q16,Tryz.f16,readRow,loadIn,simprocAttr,f,hg,hL,hs,h1,h6,h54,h55,hz,e1,e2,e3,q1,Ll,im,i1,bx,bxf,bl,bf,List.length_set,List.map_cons,ptrW,List.cons_append,read1]
    rfl) ?_
   refine Goes.condFQ q16_1111111111101221102111101 (by simp (maxSteps:=9^6) +decide (disch:=first|omega|(simp only[lens]<;>omega)|decide) only [go_sem,readRow,loadIn,simprocAttr,f,hg,hL,hs,h1,h6,h54,h55,hz,e1,e2,e3,q1,Ll,im,i1,bx,bxf,bl,bf,List.length_set,List.map_cons,ptrW,List.cons_append,read1]<;>rfl) (by first|rfl|assumption|exact decide_eq_false (by omega)|(simp; omega)) ?_
   refine Goes.skipQ q16_11111111111012211021111014 ?_
   refine Goes.opsQ q16_111111111110122110211111 fits Hh (EX_sound (EX_sound E0_sound (fun _ _ _ _=>xBm2_ok Hh)) (fun _ _ _ _=>xWr_ok Hh)) (by
    simp (maxSteps:=9^6) +decide (disch:=first|omega|(simp only[lens]<;>omega)|decide) only [go_sem,q16,Tryz.f16,readRow,loadIn,simprocAttr,f,hg,hL,hs,h1,h6,h54,h55,hz,e1,e2,e3,q1,Ll,im,i1,bx,bxf,bl,bf,List.length_set,List.map_cons,ptrW,List.cons_append,read1]
    rfl) ?_
   refine Goes.opsQ q16_111111111110122111 fits Hh E0_sound (by
    simp (maxSteps:=9^6) +decide (disch:=first|omega|(simp only[lens]<;>omega)|decide) only [go_sem,q16,Tryz.f16,readRow,loadIn,simprocAttr,f,hg,hL,hs,h1,h6,h54,h55,hz,e1,e2,e3,q1,Ll,im,i1,bx,bxf,bl,bf,List.length_set,List.map_cons,ptrW,List.cons_append,read1]
    rfl) ?_
   show Goes K Tryz.prog 104 none (.loop (q16 [1,1,1,1,1,1,1,1,1,1,1,0,1,2,2])) _ _ _ _
   rw[←q16_11111111111012]
   refine (ih (k+1) _ _ _ (by omega) I2 ?_ ?_ ?_ ?_ ?_ ?_ ?_).mono ?_
   ·rw[get_put_ne (by omega),get_put_ne (by omega)]; exact hg
   ·rw[get_put_self]
   ·rw[get_put_ne (by omega),get_put_ne (by omega)]; exact hs
   ·simp (decide:=true) only [evalT_set,reduceIte,h1]
   ·simp (decide:=true) only [evalT_set,reduceIte,h6]
   ·simp (decide:=true) only [evalT_set,reduceIte,h54]
   ·simp (decide:=true) only [evalT_set,reduceIte]<;>rfl
   rintro x ds' ts' h' ⟨r1,r2,r3,r4,r5,r6⟩
   refine⟨r1,r2,r3,r4,fun m hm=>(r5 m hm).trans (by rw[get_put_ne hm,get_put_ne hm]),fun s hs=>(r6 s hs).trans ?_⟩
   simp (decide:=true) only [evalT_low hs]
end
end Go.Proofs.YtlbbmhgdcdcdnaaGreatDoor
set_option maxRecDepth 100000
set_option maxHeartbeats 8000000
namespace Go.Proofs.YtlbbmhgdcdcdnaaGreatDoor
open Go.Ev
theorem Img.start {a b c d:Nat} (S H:List C) (sl:S.length=256) (sf:S.all C.flat=true) (hl:H.length=256) (hf:H.all C.flat=true) (hd:40≤d) (hb:16≤b):Img a b c d 0 ((((List.replicate (2+d+a * b) zB).set 0 S).set 1 (descB a b c)).set 2 H):=by
 refine⟨by simp only[List.length_set,List.length_replicate],imB_set (imB_set (imB_set (imB_rep _) sl sf _) (descB_len a b c) (descB_flat a b c) _) hl hf _,?_,fun j hj=>by omega,fun j hj=>?_⟩
 ·rw[List.getElem?_set_ne (by omega),List.getElem?_set_self (by simp only[List.length_set,List.length_replicate]; omega)]
 ·have:=mul_step (b:=b) hj
  rw[List.getElem?_set_ne (by omega),List.getElem?_set_ne (by omega),List.getElem?_set_ne (by omega),List.getElem?_replicate,if_pos (by omega)]
section
variable (Hh:Hearts K Tryz.prog)
include Hh
theorem makeOk {a b c d:Nat} (f:fineB a b c d=true) {h:Go.Ev.H} (hst:h.get 0=some stepsO) (l0:0<h.next):∃ L,Image a b c d L∧CallOk K Tryz.prog 16 [.g [.int .i64 (a:Int),.int .i64 (b:Int),.int .i64 (c:Int),.int .i64 (d:Int)]] h (.tup [.c (.slice h.next 0 (2+d+a * b) 256),.c (.int .i64 0)]) (h.new (.row 256 L false)):=by
 obtain⟨g1,g2,g3,g4,g5,g6,g7,g8,g9,g10,g11⟩:=fineB_fine f
 obtain⟨N,hN⟩:∃ N,2+d+a * b=N:=⟨_,rfl⟩
 have ha:=mul_step (b:=b) (show 0<a by omega)
 have hX:pgL (sealN (desN (firstD a b c) 0 zerN0))=descB a b c:=rfl
 have xl:=descB_len a b c
 have xf:=descB_flat a b c
 have fl:=firstD_len (b:=b) (c:=c) g1
 have fm:=firstD_may (a:=a) (b:=b) (c:=c) (by omega)
 obtain⟨S,hS⟩:∃ S,pgL (supN a b c d)=S:=⟨_,rfl⟩
 have sl:S.length=256:=by rw[←hS,pg_len,supN_len]
 have sf:S.all C.flat=true:=by rw[←hS]; exact flat_pg _
 obtain⟨Hd,hH⟩:∃ x,headB=x:=⟨_,rfl⟩
 have hl:Hd.length=256:=by rw[←hH]; exact headB_len
 have hf:Hd.all C.flat=true:=by rw[←hH]; exact headB_flat
 have I0:=Img.start (a:=a) (b:=b) (c:=c) (d:=d) S Hd sl sf hl hf g8 g3
 have fz:List.replicate 256 (C.int .u8 0)=zB:=rfl
 have zl:zB.length=256:=by kernel_rfl
 have zf:=zB_flat
 have im0:imB (List.replicate N zB)=true:=imB_rep _
 have im1:imB ((List.replicate N zB).set 0 S)=true:=imB_set im0 sl sf _
 have im2:imB (((List.replicate N zB).set 0 S).set 1 (descB a b c))=true:=imB_set im1 xl xf _
 have rl:=rootB_len
 have rf:=rootB_flat
 rw[hN] at I0 ⊢
 obtain⟨v,h',cc,n',L,rfl,I,n1,n2,n3,hk⟩:∃ v h',CallOk K Tryz.prog 16 [.g [.int .i64 (a:Int),.int .i64 (b:Int),.int .i64 (c:Int),.int .i64 (d:Int)]] h v h'∧∃ n' L,v=.tup [.c (.slice n' 0 N 256),.c (.int .i64 0)]∧Image a b c d L∧h.next≤n'∧n'<h'.next∧h'.get n'=some (.row 256 L false)∧∀ m,m<h.next→h'.get m=h.get m:=by
  refine CallOk.goesE fits Hh (by kernel_rfl) (by kernel_rfl) (by kernel_rfl) (show Tryz.f16.body=some (q16 []) by kernel_rfl) rfl ?_
  show Goes K Tryz.prog 104 none _ _ _ _ _
  refine Goes.seqQ q16_ ?_
  refine Goes.opsQ q16_0 fits Hh E0_sound (by
   simp (maxSteps:=9^6) +decide (disch:=first|omega|(simp only[lens]<;>omega)|decide) only [go_sem,q16,Tryz.f16,loadIn,simprocAttr,f,hst,hN,hX,xl,xf,fl,fm,hS,sl,sf,hH,hl,hf,fz,zl,zf,im0,im1,im2,rl,rf,rd4,List.length_set,List.length_replicate,List.map_cons,ptrW,List.cons_append,read1,opBox,opMakeSlice,newSlice]
   rfl) ?_
  refine Goes.seqQ q16_1 ?_
  refine Goes.seqQ q16_10 ?_
  refine Goes.opsQ q16_100 fits Hh (EX_sound E0_sound (fun _ _ _ _=>xgMay_ok Hh)) (by
   simp (maxSteps:=9^6) +decide (disch:=first|omega|(simp only[lens]<;>omega)|decide) only [go_sem,q16,Tryz.f16,loadIn,simprocAttr,f,hst,hN,hX,xl,xf,fl,fm,hS,sl,sf,hH,hl,hf,fz,zl,zf,im0,im1,im2,rl,rf,rd4,List.length_set,List.length_replicate,List.map_cons,ptrW,List.cons_append,read1,opBox,opMakeSlice,newSlice]
   rfl) ?_
  refine Goes.condFQ q16_101 (by simp (maxSteps:=9^6) +decide (disch:=first|omega|(simp only[lens]<;>omega)|decide) only [go_sem,loadIn,simprocAttr,f,hst,hN,hX,xl,xf,fl,fm,hS,sl,sf,hH,hl,hf,fz,zl,zf,im0,im1,im2,rl,rf,rd4,List.length_set,List.length_replicate,List.map_cons,ptrW,List.cons_append,read1,opBox,opMakeSlice,newSlice]<;>rfl) (by first|rfl|assumption|exact decide_eq_false (by omega)|(simp; omega)) ?_
  refine Goes.skipQ q16_1014 ?_
  refine Goes.seqQ q16_11 ?_
  refine Goes.opsQ q16_110 fits Hh (EX_sound E0_sound (fun _ _ _ _=>xgBlocks_ok Hh)) (by
   simp (maxSteps:=9^6) +decide (disch:=first|omega|(simp only[lens]<;>omega)|decide) only [go_sem,q16,Tryz.f16,loadIn,simprocAttr,f,hst,hN,hX,xl,xf,fl,fm,hS,sl,sf,hH,hl,hf,fz,zl,zf,im0,im1,im2,rl,rf,rd4,List.length_set,List.length_replicate,List.map_cons,ptrW,List.cons_append,read1,opBox,opMakeSlice,newSlice]
   rfl) ?_
  refine Goes.seqQ q16_111 ?_
  refine Goes.opsQ q16_1110 fits Hh E0_sound (by
   simp (maxSteps:=9^6) +decide (disch:=first|omega|(simp only[lens]<;>omega)|decide) only [go_sem,q16,Tryz.f16,loadIn,simprocAttr,f,hst,hN,hX,xl,xf,fl,fm,hS,sl,sf,hH,hl,hf,fz,zl,zf,im0,im1,im2,rl,rf,rd4,List.length_set,List.length_replicate,List.map_cons,ptrW,List.cons_append,read1,opBox,opMakeSlice,newSlice]
   rfl) ?_
  refine Goes.seqQ q16_1111 ?_
  refine Goes.opsQ q16_11110 fits Hh E0_sound (by
   simp (maxSteps:=9^6) +decide (disch:=first|omega|(simp only[lens]<;>omega)|decide) only [go_sem,q16,Tryz.f16,loadIn,simprocAttr,f,hst,hN,hX,xl,xf,fl,fm,hS,sl,sf,hH,hl,hf,fz,zl,zf,im0,im1,im2,rl,rf,rd4,List.length_set,List.length_replicate,List.map_cons,ptrW,List.cons_append,read1,opBox,opMakeSlice,newSlice]
   rfl) ?_
  refine Goes.seqQ q16_11111 ?_
  refine Goes.opsQ q16_111110 fits Hh (EX_sound E0_sound (fun _ _ _ _=>xSuW_ok Hh)) (by
   simp (maxSteps:=9^6) +decide (disch:=first|omega|(simp only[lens]<;>omega)|decide) only [go_sem,q16,Tryz.f16,loadIn,simprocAttr,f,hst,hN,hX,xl,xf,fl,fm,hS,sl,sf,hH,hl,hf,fz,zl,zf,im0,im1,im2,rl,rf,rd4,List.length_set,List.length_replicate,List.map_cons,ptrW,List.cons_append,read1,opBox,opMakeSlice,newSlice]
   rfl) ?_
  refine Goes.seqQ q16_111111 ?_
  refine Goes.opsQ q16_1111110 fits Hh (EX_sound E0_sound (fun _ _ _ _=>xWr_ok Hh)) (by
   simp (maxSteps:=9^6) +decide (disch:=first|omega|(simp only[lens]<;>omega)|decide) only [go_sem,q16,Tryz.f16,loadIn,simprocAttr,f,hst,hN,hX,xl,xf,fl,fm,hS,sl,sf,hH,hl,hf,fz,zl,zf,im0,im1,im2,rl,rf,rd4,List.length_set,List.length_replicate,List.map_cons,ptrW,List.cons_append,read1,opBox,opMakeSlice,newSlice]
   rfl) ?_
  refine Goes.seqQ q16_1111111 ?_
  refine Goes.drawnQ q16_11111110 fits Hh (EX_sound (EX_sound E0_sound (fun _ _ _ _=>xDescs_ok Hh)) (fun _ _ _ _=>xWrD_ok Hh)) (by kernel_rfl) (by
   simp (maxSteps:=9^6) +decide (disch:=first|omega|(simp only[lens]<;>omega)|decide) only [go_sem,q16,Tryz.f16,loadIn,simprocAttr,op_move,op_assign,op_binOp,op_unOp,op_convert,op_load,op_store,op_indexAddr,op_alloc,op_pick,op_box,op_build,op_buildSlice,op_nilCheck,op_makeSlice,op_fieldAddr,op_field,op_extract,op_lookup,op_mapUpdate,op_builtin,op_index,drEnd,drAll,drOne,drTs,drKd,drPure,drRead,drAlloc,drEff,drSkip,drPut,putT_ok,putT_none,cutT,looks,tmpOf,Op.operands,Call.operands,kd,kdCall,List.filterMap_cons,List.filterMap_nil,List.append_nil,List.nil_append,List.cons_append,stables,stable,reachAt,reachP,waitsAt,waits,gives_self,List.all_cons,List.all_nil,List.any_cons,List.any_nil,Region.binds,Bool.or_true,Bool.true_or,Bool.and_true,Bool.true_and,Bool.or_false,Bool.false_or,Bool.and_self,Bool.or_self,ble_true,Nat.le_refl,Nat.le_add_right,List.map_cons,Array.toList_append,f,hst,hN,hX,xl,xf,fl,fm,hS,sl,sf,hH,hl,hf,fz,zl,zf,im0,im1,im2,rl,rf,rd4,List.length_set,List.length_replicate,List.map_cons,ptrW,List.cons_append,read1,opBox,opMakeSlice,newSlice]
   rfl) ?_
  refine Goes.seqQ q16_11111111 ?_
  refine Goes.opsQ q16_111111110 fits Hh (EX_sound E0_sound (fun _ _ _ _=>xWr_ok Hh)) (by
   simp (maxSteps:=9^6) +decide (disch:=first|omega|(simp only[lens]<;>omega)|decide) only [go_sem,q16,Tryz.f16,loadIn,simprocAttr,f,hst,hN,hX,xl,xf,fl,fm,hS,sl,sf,hH,hl,hf,fz,zl,zf,im0,im1,im2,rl,rf,rd4,List.length_set,List.length_replicate,List.map_cons,ptrW,List.cons_append,read1,opBox,opMakeSlice,newSlice]
   rfl) ?_
  refine Goes.seqQ q16_111111111 ?_
  refine Goes.opsQ q16_1111111110 fits Hh (EX_sound E0_sound (fun _ _ _ _=>xWrHead_ok Hh)) (by
   simp (maxSteps:=9^6) +decide (disch:=first|omega|(simp only[lens]<;>omega)|decide) only [go_sem,q16,Tryz.f16,loadIn,simprocAttr,f,hst,hN,hX,xl,xf,fl,fm,hS,sl,sf,hH,hl,hf,fz,zl,zf,im0,im1,im2,rl,rf,rd4,List.length_set,List.length_replicate,List.map_cons,ptrW,List.cons_append,read1,opBox,opMakeSlice,newSlice]
   rfl) ?_
  refine Goes.seqQ q16_1111111111 ?_
  refine Goes.opsQ q16_11111111110 fits Hh (EX_sound E0_sound (fun _ _ _ _=>xWr_ok Hh)) (by
   simp (maxSteps:=9^6) +decide (disch:=first|omega|(simp only[lens]<;>omega)|decide) only [go_sem,q16,Tryz.f16,loadIn,simprocAttr,f,hst,hN,hX,xl,xf,fl,fm,hS,sl,sf,hH,hl,hf,fz,zl,zf,im0,im1,im2,rl,rf,rd4,List.length_set,List.length_replicate,List.map_cons,ptrW,List.cons_append,read1,opBox,opMakeSlice,newSlice]
   rfl) ?_
  refine Goes.seqQ q16_11111111111 ?_
  refine Goes.seqQ q16_111111111110 ?_
  refine Goes.opsQ q16_1111111111100 fits Hh E0_sound (by
   simp (maxSteps:=9^6) +decide (disch:=first|omega|(simp only[lens]<;>omega)|decide) only [go_sem,q16,Tryz.f16,loadIn,simprocAttr,f,hst,hN,hX,xl,xf,fl,fm,hS,sl,sf,hH,hl,hf,fz,zl,zf,im0,im1,im2,rl,rf,rd4,List.length_set,List.length_replicate,List.map_cons,ptrW,List.cons_append,read1,opBox,opMakeSlice,newSlice]
   rfl) ?_
  refine Goes.blockQ q16_1111111111101 (Goes.block ?_)
  refine (mkLoop Hh f hN a 0 _ _ _ (n:=h.next) (by omega) I0 ?_ ?_ ?_ ?_ ?_ ?_ ?_).mono ?_
  ·simp (maxSteps:=9^6) +decide (disch:=first|omega|(simp only[lens]<;>omega)|decide) only [go_sem,loadIn,simprocAttr]<;>rfl
  ·simp (maxSteps:=9^6) +decide (disch:=first|omega|(simp only[lens]<;>omega)|decide) only [go_sem,loadIn,simprocAttr]<;>rfl
  ·simp (maxSteps:=9^6) +decide (disch:=first|omega|(simp only[lens]<;>omega)|decide) only [go_sem,loadIn,simprocAttr]<;>rfl
  ·simp (decide:=true) only [evalT_set,reduceIte]
  ·simp (decide:=true) only [evalT_set,reduceIte]
  ·simp (decide:=true) only [evalT_set,reduceIte]
  ·simp (decide:=true) only [evalT_set,reduceIte]<;>rfl
  rintro x ds' ts' h' ⟨rfl,rfl,e3,⟨L,I1,hL⟩,kp,tk⟩
  simp only[H.next_put,H.next_new] at e3
  have f1:evalT ts' 1=.w (.c (.ptr h.next 0)):=(tk 1 (by decide)).trans (by simp (decide:=true) only [evalT_set,reduceIte])
  have f3:evalT ts' 3=.w (.c (.int .i64 0)):=(tk 3 (by decide)).trans (by simp (decide:=true) only [evalT_set,reduceIte]<;>rfl)
  have f4:evalT ts' 4=.w (.c (.ptr (h.next+1+1) 0)):=(tk 4 (by decide)).trans (by simp (decide:=true) only [evalT_set,reduceIte])
  have f5:evalT ts' 5=.w (.c (.ptr (h.next+1+1+1) 0)):=(tk 5 (by decide)).trans (by simp (decide:=true) only [evalT_set,reduceIte])
  have f6:evalT ts' 6=.w (.c (.fn 48 [] [some (h.next+1+1+1,0),some (h.next+1+1,0)])):=(tk 6 (by decide)).trans (by simp (decide:=true) only [evalT_set,reduceIte])
  have f7:evalT ts' 7=.w (.c (.ptr (h.next+1+1+1+1) 0)):=(tk 7 (by decide)).trans (by simp (decide:=true) only [evalT_set,reduceIte])
  have k0:=(kp h.next (by omega)).trans (show _=some (.row 4 [[.int .i64 (a:Int),.int .i64 (b:Int),.int .i64 (c:Int),.int .i64 (d:Int)]] false) by simp (maxSteps:=9^6) +decide (disch:=first|omega|(simp only[lens]<;>omega)|decide) only [go_sem,loadIn,simprocAttr]<;>rfl)
  have k2:=(kp (h.next+1+1) (by omega)).trans (show _=some (.row 1 [[.slice (h.next+1) 0 N 256]] false) by simp (maxSteps:=9^6) +decide (disch:=first|omega|(simp only[lens]<;>omega)|decide) only [go_sem,loadIn,simprocAttr]<;>rfl)
  have k3:=(kp (h.next+1+1+1) (by omega)).trans (show _=some (.row 1 [[.int .i64 0]] false) by simp (maxSteps:=9^6) +decide (disch:=first|omega|(simp only[lens]<;>omega)|decide) only [go_sem,loadIn,simprocAttr]<;>rfl)
  have k4:=(kp (h.next+1+1+1+1) (by omega)).trans (show _=some (.row 256 [Hd] false) by simp (maxSteps:=9^6) +decide (disch:=first|omega|(simp only[lens]<;>omega)|decide) only [go_sem,loadIn,simprocAttr]<;>rfl)
  have kk:∀ m,m<h.next→h'.get m=h.get m:=fun m hm=>(kp m (by omega)).trans (by (first|(simp (discharger:=omega) only [H.get_put,H.get_new,H.get_del,H.next_new,H.next_put,H.next_del,if_neg]; done)|(simp only[H.get_put,H.get_new,H.get_del,H.next_new,H.next_put,H.next_del]; (repeat' split)<;>first|rfl|(exfalso; omega)|omega)))
  clear kp tk
  have i1:=I1.im
  have Ll:L.length=N:=by rw[I1.len,hN]
  have ac:1≤a * c:=Nat.mul_pos (by omega) (by omega)
  have t1:(1:Int).toNat - 1=0:=rfl
  have lst:=I1.last g3 g1
  obtain⟨z,hz⟩:∃ z,2+d+2=z:=⟨_,rfl⟩
  rw[hz] at lst
  have zN:z<N:=by omega
  refine Goes.seqQ q16_111111111111 ?_
  refine Goes.opsQ q16_1111111111110 fits Hh (EX_sound E0_sound (fun _ _ _ _=>xgInode_ok Hh)) (by
   simp (maxSteps:=9^6) +decide (disch:=first|omega|(simp only[lens]<;>omega)|decide) only [go_sem,q16,Tryz.f16,loadIn,simprocAttr,f,f1,f3,f4,f5,f6,f7,k0,k2,k3,k4,hL,i1,Ll,t1,hz,fz,zl,zf,hl,rl,rf,rd4,Nat.zero_div,Nat.zero_mul,Nat.zero_mod,Nat.add_zero,Nat.sub_self,List.map_cons,ptrW,List.cons_append,read1]
   rfl) ?_
  refine Goes.seqQ q16_1111111111111 ?_
  refine Goes.opsQ q16_11111111111110 fits Hh E0_sound (by
   simp (maxSteps:=9^6) +decide (disch:=first|omega|(simp only[lens]<;>omega)|decide) only [go_sem,q16,Tryz.f16,loadIn,simprocAttr,f,f1,f3,f4,f5,f6,f7,k0,k2,k3,k4,hL,i1,Ll,t1,hz,fz,zl,zf,hl,rl,rf,rd4,Nat.zero_div,Nat.zero_mul,Nat.zero_mod,Nat.add_zero,Nat.sub_self,List.map_cons,ptrW,List.cons_append,read1]
   rfl) ?_
  refine Goes.seqQ q16_11111111111111 ?_
  refine Goes.opsQ q16_111111111111110 fits Hh (EX_sound E0_sound (fun _ _ _ _=>xInPut_ok Hh)) (by
   simp (maxSteps:=9^6) +decide (disch:=first|omega|(simp only[lens]<;>omega)|decide) only [go_sem,q16,Tryz.f16,loadIn,simprocAttr,f,f1,f3,f4,f5,f6,f7,k0,k2,k3,k4,hL,i1,Ll,t1,hz,fz,zl,zf,hl,rl,rf,rd4,Nat.zero_div,Nat.zero_mul,Nat.zero_mod,Nat.add_zero,Nat.sub_self,List.map_cons,ptrW,List.cons_append,read1]
   rfl) ?_
  refine Goes.seqQ q16_111111111111111 ?_
  refine Goes.opsQ q16_1111111111111110 fits Hh (EX_sound E0_sound (fun _ _ _ _=>xWr_ok Hh)) (by
   simp (maxSteps:=9^6) +decide (disch:=first|omega|(simp only[lens]<;>omega)|decide) only [go_sem,q16,Tryz.f16,loadIn,simprocAttr,f,f1,f3,f4,f5,f6,f7,k0,k2,k3,k4,hL,i1,Ll,t1,hz,fz,zl,zf,hl,rl,rf,rd4,Nat.zero_div,Nat.zero_mul,Nat.zero_mod,Nat.add_zero,Nat.sub_self,List.map_cons,ptrW,List.cons_append,read1]
   rfl) ?_
  refine Goes.seqQ q16_1111111111111111 ?_
  refine Goes.seqQ q16_11111111111111110 ?_
  refine Goes.opsQ q16_111111111111111100 fits Hh E0_sound (by
   simp (maxSteps:=9^6) +decide (disch:=first|omega|(simp only[lens]<;>omega)|decide) only [go_sem,q16,Tryz.f16,loadIn,simprocAttr,f,f1,f3,f4,f5,f6,f7,k0,k2,k3,k4,hL,i1,Ll,t1,hz,fz,zl,zf,hl,rl,rf,rd4,Nat.zero_div,Nat.zero_mul,Nat.zero_mod,Nat.add_zero,Nat.sub_self,List.map_cons,ptrW,List.cons_append,read1]
   rfl) ?_
  refine Goes.condFQ q16_111111111111111101 (by simp (maxSteps:=9^6) +decide (disch:=first|omega|(simp only[lens]<;>omega)|decide) only [go_sem,loadIn,simprocAttr,f,f1,f3,f4,f5,f6,f7,k0,k2,k3,k4,hL,i1,Ll,t1,hz,fz,zl,zf,hl,rl,rf,rd4,Nat.zero_div,Nat.zero_mul,Nat.zero_mod,Nat.add_zero,Nat.sub_self,List.map_cons,ptrW,List.cons_append,read1]<;>rfl) (by first|rfl|assumption|exact decide_eq_false (by omega)|(simp; omega)) ?_
  refine Goes.skipQ q16_1111111111111111014 ?_
  refine Goes.seqQ q16_11111111111111111 ?_
  refine Goes.opsQ q16_111111111111111110 fits Hh E0_sound (by
   simp (maxSteps:=9^6) +decide (disch:=first|omega|(simp only[lens]<;>omega)|decide) only [go_sem,q16,Tryz.f16,loadIn,simprocAttr,f,f1,f3,f4,f5,f6,f7,k0,k2,k3,k4,hL,i1,Ll,t1,hz,fz,zl,zf,hl,rl,rf,rd4,Nat.zero_div,Nat.zero_mul,Nat.zero_mod,Nat.add_zero,Nat.sub_self,List.map_cons,ptrW,List.cons_append,read1]
   rfl) ?_
  refine Goes.retQ q16_111111111111111111 ?_
  refine⟨_,_,(by simp (maxSteps:=9^6) +decide (disch:=first|omega|(simp only[lens]<;>omega)|decide) only [go_sem,loadIn,simprocAttr]<;>rfl),_,_,rfl,lst,by omega,?_,?_,fun m hm=>?_⟩
  ·simp only[H.next_put,H.next_new]<;>omega
  ·simp (discharger:=omega) only [H.get_put,if_neg,if_pos,if_true]
  ·refine Eq.trans ?_ (kk m hm)
   (first|(simp (discharger:=omega) only [H.get_put,H.get_new,H.get_del,H.next_new,H.next_put,H.next_del,if_neg]; done)|(simp only[H.get_put,H.get_new,H.get_del,H.next_new,H.next_put,H.next_del]; (repeat' split)<;>first|rfl|(exfalso; omega)|omega))
 rw[show N=N from rfl]
 exact⟨L,I,CallOk.row cc n1 n3 rfl (imB_flat I.im) n2 hk⟩
end
end Go.Proofs.YtlbbmhgdcdcdnaaGreatDoor
set_option maxRecDepth 100000
namespace Go.Proofs.YtlbbmhgdcdcdnaaGreatDoor
open Go.Ev
def w2 (v:Nat):Nat:=v % 256+256 * (v / 256 % 256)
theorem w2_eq {v:Nat} (h:v<65536):w2 v=v:=by unfold w2; omega
theorem at_set {ns:List Nat} {i v:Nat} (h:i<ns.length):atN (ns.set i v) i=v % 256:=by
 unfold atN
 rw[List.getD_eq_getElem?_getD,List.getElem?_set_self h]
 rfl
theorem at_ne {ns:List Nat} {i j v:Nat} (h:i≠j):atN (ns.set i v) j=atN ns j:=by
 unfold atN
 rw[List.getD_eq_getElem?_getD,List.getD_eq_getElem?_getD,List.getElem?_set_ne h]
theorem get4_put {ns:List Nat} {i v:Nat} (h:i+4≤ns.length) (hv:v<4294967296):get4N (put4N ns i v) i=v:=by
 unfold get4N put4N
 have h0:atN ((((ns.set i v).set (i+1) (v / 256)).set (i+2) (v / 256 / 256)).set (i+3) (v / 256 / 256 / 256)) i=v % 256:=by
  rw[at_ne (by omega),at_ne (by omega),at_ne (by omega),at_set (by omega)]
 have h1:atN ((((ns.set i v).set (i+1) (v / 256)).set (i+2) (v / 256 / 256)).set (i+3) (v / 256 / 256 / 256)) (i+1)=v / 256 % 256:=by
  rw[at_ne (by omega),at_ne (by omega),at_set (by rw[List.length_set]; omega)]
 have h2:atN ((((ns.set i v).set (i+1) (v / 256)).set (i+2) (v / 256 / 256)).set (i+3) (v / 256 / 256 / 256)) (i+2)=v / 256 / 256 % 256:=by
  rw[at_ne (by omega),at_set (by rw[List.length_set,List.length_set]; omega)]
 have h3:atN ((((ns.set i v).set (i+1) (v / 256)).set (i+2) (v / 256 / 256)).set (i+3) (v / 256 / 256 / 256)) (i+3)=v / 256 / 256 / 256 % 256:=by
  rw[at_set (by rw[List.length_set,List.length_set,List.length_set]; omega)]
 rw[h0,h1,h2,h3]
 omega
theorem take_set {ns:List Nat} {i v k:Nat} (h:k≤i):(ns.set i v).take k=ns.take k:=by
 refine List.ext_getElem? fun j=>?_
 rw[List.getElem?_take,List.getElem?_take]
 split
 ·rw[List.getElem?_set_ne (by omega)]
 ·rfl
theorem crc_seal (ns:List Nat):crcN (sealN ns)=crcN ns:=by
 have:(sealN ns).take 252=ns.take 252:=by
  unfold sealN put4N
  rw[take_set (by omega),take_set (by omega),take_set (by omega),take_set (by omega)]
 unfold crcN
 rw[this]
theorem zer_seal (ns:List Nat) {i n:Nat} (h:i+n≤252):zerN (sealN ns) i n=zerN ns i n:=by
 have:((sealN ns).drop i).take n=(ns.drop i).take n:=by
  rw[List.take_drop,List.take_drop]
  congr 1
  unfold sealN put4N
  rw[take_set (by omega),take_set (by omega),take_set (by omega),take_set (by omega)]
 unfold zerN
 rw[this]
theorem at_seal (ns:List Nat) {i:Nat} (h:i<252):atN (sealN ns) i=atN ns i:=by
 unfold sealN put4N
 rw[at_ne (by omega),at_ne (by omega),at_ne (by omega),at_ne (by omega)]
theorem get2_seal (ns:List Nat) {i:Nat} (h:i<250):get2N (sealN ns) i=get2N ns i:=by
 unfold get2N
 rw[at_seal _ (by omega),at_seal _ (by omega)]
theorem tell_seal (ns:List Nat):∀ (a i:Nat),i+8 * a≤240→tellD (sealN ns) a i=tellD ns a i
 | 0,_,_=>rfl
 | a+1,i,h=>by
  rw[tellD,tellD,tell_seal ns a (i+8) (by omega)]
  unfold getD
  rw[get2_seal _ (by omega),get2_seal _ (by omega),get2_seal _ (by omega)]
theorem void_seal (ns:List Nat):∀ (a i:Nat),i+8 * a≤240→voidG (sealN ns) a i=voidG ns a i
 | 0,_,_=>rfl
 | a+1,i,h=>by rw[voidG,voidG,void_seal ns a (i+8) (by omega),zer_seal _ (by omega)]
def wD (d:Desc):Desc:=(w2 d.1,w2 d.2.1,w2 d.2.2)
theorem wD_eq {d:Desc} (h:d.1<65536∧d.2.1<65536∧d.2.2<65536):wD d=d:=by
 unfold wD
 rw[w2_eq h.1,w2_eq h.2.1,w2_eq h.2.2]
theorem tell1 (q x y:Nat):tellD (desN [(q,x,y)] 0 zerN0) 1 0=[wD (q,x,y)]∧voidG (desN [(q,x,y)] 0 zerN0) 1 0=true∧zerN (desN [(q,x,y)] 0 zerN0) 8 244=true:=⟨by kernel_rfl,by kernel_rfl,by kernel_rfl⟩
theorem tell2 (q x y q1 x1 y1:Nat):tellD (desN [(q,x,y),(q1,x1,y1)] 0 zerN0) 2 0=[wD (q,x,y),wD (q1,x1,y1)]∧voidG (desN [(q,x,y),(q1,x1,y1)] 0 zerN0) 2 0=true∧zerN (desN [(q,x,y),(q1,x1,y1)] 0 zerN0) 16 236=true:=⟨by kernel_rfl,by kernel_rfl,by kernel_rfl⟩
theorem tell3 (q x y q1 x1 y1 q2 x2 y2:Nat):tellD (desN [(q,x,y),(q1,x1,y1),(q2,x2,y2)] 0 zerN0) 3 0=[wD (q,x,y),wD (q1,x1,y1),wD (q2,x2,y2)]∧voidG (desN [(q,x,y),(q1,x1,y1),(q2,x2,y2)] 0 zerN0) 3 0=true∧zerN (desN [(q,x,y),(q1,x1,y1),(q2,x2,y2)] 0 zerN0) 24 228=true:=⟨by kernel_rfl,by kernel_rfl,by kernel_rfl⟩
theorem tell4 (q x y q1 x1 y1 q2 x2 y2 q3 x3 y3:Nat):tellD (desN [(q,x,y),(q1,x1,y1),(q2,x2,y2),(q3,x3,y3)] 0 zerN0) 4 0=[wD (q,x,y),wD (q1,x1,y1),wD (q2,x2,y2),wD (q3,x3,y3)]∧voidG (desN [(q,x,y),(q1,x1,y1),(q2,x2,y2),(q3,x3,y3)] 0 zerN0) 4 0=true∧zerN (desN [(q,x,y),(q1,x1,y1),(q2,x2,y2),(q3,x3,y3)] 0 zerN0) 32 220=true:=⟨by kernel_rfl,by kernel_rfl,by kernel_rfl⟩
theorem tell_first {a b c d:Nat} (f:fineB a b c d=true):tellD (desN (firstD a b c) 0 zerN0) a 0=firstD a b c∧voidG (desN (firstD a b c) 0 zerN0) a 0=true∧zerN (desN (firstD a b c) 0 zerN0) (8 * a) (252 - 8 * a)=true:=by
 obtain⟨g1,g2,g3,g4,g5,g6,g7,g8,g9,g10,g11⟩:=fineB_fine f
 have e0:wD (b - 2 - c / 4,c - 1,1)=(b - 2 - c / 4,c - 1,1):=wD_eq ⟨by simp only; omega,by simp only; omega,by simp only; omega⟩
 have e1:wD (b - 2 - c / 4,c,0)=(b - 2 - c / 4,c,0):=wD_eq ⟨by simp only; omega,by simp only; omega,by simp only; omega⟩
 obtain rfl|rfl|rfl|rfl:a=1∨a=2∨a=3∨a=4:=by omega
 ·have:=tell1 (b - 2 - c / 4) (c - 1) 1
  rw[e0] at this
  exact this
 ·have:=tell2 (b - 2 - c / 4) (c - 1) 1 (b - 2 - c / 4) c 0
  rw[e0,e1] at this
  exact this
 ·have:=tell3 (b - 2 - c / 4) (c - 1) 1 (b - 2 - c / 4) c 0 (b - 2 - c / 4) c 0
  rw[e0,e1] at this
  exact this
 ·have:=tell4 (b - 2 - c / 4) (c - 1) 1 (b - 2 - c / 4) c 0 (b - 2 - c / 4) c 0 (b - 2 - c / 4) c 0
  rw[e0,e1] at this
  exact this
theorem descB_tell {a b c d:Nat} (f:fineB a b c d=true):tellD (unN (descB a b c)) a 0=firstD a b c:=by
 obtain⟨g1,g2,g3,g4,g5,g6,g7,g8,g9,g10,g11⟩:=fineB_fine f
 unfold descB
 rw[un_pg,tell_mod,tell_seal _ _ _ (by omega)]
 exact (tell_first f).1
theorem descB_good {a b c d:Nat} (f:fineB a b c d=true):goodD (unN (descB a b c)) a b c=true:=by
 obtain⟨g1,g2,g3,g4,g5,g6,g7,g8,g9,g10,g11⟩:=fineB_fine f
 obtain⟨t1,t2,t3⟩:=tell_first f
 unfold descB
 rw[un_pg,goodD_mod]
 have q1:get4N (sealN (desN (firstD a b c) 0 zerN0)) 252=crcN (sealN (desN (firstD a b c) 0 zerN0)):=by
  rw[crc_seal]
  exact get4_put (by rw[desN_len,zer_len]; omega) (crc_lt _)
 unfold goodD
 rw[q1,Nat.beq_refl,zer_seal _ (by omega),t3,void_seal _ _ _ (by omega),t2,tell_seal _ _ _ (by omega),t1,firstD_may (by omega)]
 rfl
theorem descB_bys (a b c:Nat):bysB (descB a b c)=true:=bys_pg _
end Go.Proofs.YtlbbmhgdcdcdnaaGreatDoor
