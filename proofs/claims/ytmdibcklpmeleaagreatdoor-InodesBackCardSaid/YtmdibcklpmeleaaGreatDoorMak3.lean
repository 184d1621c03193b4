/- Calls of inode and jblock whose arguments are known: the kernel runs them. -/
import Derived.Test.YtmdibcklpmeleaaGreatDoorX24
import Derived.Test.YtmdibcklpmeleaaGreatDoorNew2
import Derived.Test.YtmdibcklpmeleaaGreatDoorEvC
import Derived.KernelRfl
import Derived.Test.YtmdibcklpmeleaaGreatDoorSup5
set_option linter.unusedSimpArgs false
set_option linter.unusedVariables false
set_option linter.unusedSectionVars false
set_option maxRecDepth 100000
namespace Go.Proofs.YtmdibcklpmeleaaGreatDoor
open Go.Ev
def byt8 (l:List Nat):List C:=l.map fun (n:Nat)=>.int .u8 (n:Int)
def Vy:List C:=byt8 [2,0,1,0,1,0,0,0]++List.replicate 248 (.int .u8 0)
def Yie:List C:=byt8 [2,0,1,0,1,0,0,0]++List.replicate 56 (.int .u8 0)++byt8 [2,0,1,0,1,0,0,0]++List.replicate 184 (.int .u8 0)
def Ygr (k l g s p0 p1 p2 p3 p4 p5 p6 p7 p8 p9 p10 nx:Int):List C:=[.int .u8 k,.int .i64 l,.int .u32 g,.int .i64 s,.int .u32 p0,.int .u32 p1,.int .u32 p2,.int .u32 p3,.int .u32 p4,.int .u32 p5,.int .u32 p6,.int .u32 p7,.int .u32 p8,.int .u32 p9,.int .u32 p10,.int .u32 nx]
def isT:Option Bool→Bool
 | some b=>b
 | none=>false
theorem Ztl {o:Option Bool} (h:isT o=true):o=some true:=by
 cases o with
 | none=>cases h
 | some b=>cases b with
  | false=>cases h
  | true=>rfl
noncomputable def Zz2:List C:=match Yb1 (evX K x3 3000 (.call 54 [.g [.int .u32 1,.int .i64 0]] ⟨.nil,1⟩)) with
 | some (.tup [.g x,_])=>x
 | _=>[]
noncomputable def Zqg:Kn1:=fun args h=>match args with
 | [.g [.int .u32 s,.int .i64 z]]=>Y2 (decide (s=1)&&decide (z=0)) (some (.tup [.g Zz2,.c (.int .i64 0)],h))
 | _=>none
noncomputable def Yd2:Kn1:=fun args h=>match args with
 | [.g x,.c (.int .i64 a)]=>bif isT (Ym x zB)&&decide (a=0) then some (.tup [.g (Ygr 0 0 0 0 0 0 0 0 0 0 0 0 0 0 0 0),.c (.int .i64 0)],h) else bif isT (Ym x Vy)&&decide (a=64) then some (.tup [.g (Ygr 0 0 0 0 0 0 0 0 0 0 0 0 0 0 0 0),.c (.int .i64 0)],h) else none
 | _=>none
noncomputable def Zvs:Kn1:=fun args h=>match args with
 | [.c (.ptr p 0),.c (.int .i64 a),.g [.int .u8 k,.int .i64 l,.int .u32 g,.int .i64 s,.int .u32 p0,.int .u32 p1,.int .u32 p2,.int .u32 p3,.int .u32 p4,.int .u32 p5,.int .u32 p6,.int .u32 p7,.int .u32 p8,.int .u32 p9,.int .u32 p10,.int .u32 nx]]=>Y2 (decide (k=2)&&decide (l=1)&&decide (g=1)&&decide (s=0)&&decide (p0=0)&&decide (p1=0)&&decide (p2=0)&&decide (p3=0)&&decide (p4=0)&&decide (p5=0)&&decide (p6=0)&&decide (p7=0)&&decide (p8=0)&&decide (p9=0)&&decide (p10=0)&&decide (nx=0)) (match h.get p with
  | some (.row s [x] ro)=>Y2 (Nat.beq s 256&&!ro) (bif isT (Ym x zB)&&decide (a=0) then some (.w (.c (.int .i64 0)),h.put p (.row 256 [Vy] false)) else bif isT (Ym x Vy)&&decide (a=64) then some (.w (.c (.int .i64 0)),h.put p (.row 256 [Yie] false)) else none)
  | _=>none)
 | _=>none
theorem Yiv:Ym zB zB=some true:=by kernel_rfl
theorem Yif:Ym Vy Vy=some true:=by kernel_rfl
theorem Yic:Ym Vy zB=some false:=by kernel_rfl
theorem Ygh:isT (some true)=true:=rfl
theorem Ygn:isT (some false)=false:=rfl
theorem Z0r:Zz2.length=256:=by kernel_rfl
theorem Zxy:Zz2.all C.flat=true:=by kernel_rfl
theorem Znz:Vy.length=256:=by kernel_rfl
theorem Zkx:Vy.all C.flat=true:=by kernel_rfl
attribute [go_sem] Zqg Yd2 Zvs Yiv Yif Yic Ygh Ygn
section
variable (Hh:Hearts K Tryz.prog)
include Hh
theorem Zya {args:List W} {h h':Go.Ev.H} {v:V} (e:Zqg args h=some (v,h')):Zd K Tryz.prog 54 args h v h':=by
 unfold Zqg at e
 split at e
 ·obtain⟨b,e⟩:=Zu.1 e
  cases e
  simp only[Bool.and_eq_true,decide_eq_true_eq] at b
  obtain⟨rfl,rfl⟩:=b
  exact Zd.closed fits Hh (Zzm Hh) gl (n:=3000) (by kernel_rfl) rfl (by kernel_rfl) h
 ·cases e
theorem Z37 {args:List W} {h h':Go.Ev.H} {v:V} (e:Zvs args h=some (v,h')):Zd K Tryz.prog 57 args h v h':=by
 unfold Zvs at e
 split at e
 ·rename_i p a k l g s p0 p1 p2 p3 p4 p5 p6 p7 p8 p9 p10 nx
  obtain⟨b,e2⟩:=Zu.1 e
  clear e
  simp only[Bool.and_eq_true,decide_eq_true_eq] at b
  obtain⟨⟨⟨⟨⟨⟨⟨⟨⟨⟨⟨⟨⟨⟨⟨rfl,rfl⟩,rfl⟩,rfl⟩,rfl⟩,rfl⟩,rfl⟩,rfl⟩,rfl⟩,rfl⟩,rfl⟩,rfl⟩,rfl⟩,rfl⟩,rfl⟩,rfl⟩:=b
  split at e2
  ·rename_i s x ro heq
   obtain⟨q,e3⟩:=Zu.1 e2
   clear e2
   rw[Bool.and_eq_true] at q
   obtain⟨q1,q2⟩:=q
   cases b1:(isT (Ym x zB)&&decide (a=0)) with
   | true =>
    rw[b1] at e3
    cases e3
    rw[Bool.and_eq_true] at b1
    obtain rfl:=Nat.eq_of_beq_eq_true q1
    obtain rfl:ro=false:=by simpa using q2
    obtain rfl:=Zaw (Ztl b1.1)
    obtain rfl:=of_decide_eq_true b1.2
    exact Zd.Zz6 fits Hh (Zzm Hh) gl (n:=4000) (by kernel_rfl) rfl (by kernel_rfl) (by kernel_rfl) rfl h p heq
   | false =>
    rw[b1] at e3
    cases b2:(isT (Ym x Vy)&&decide (a=64)) with
    | true =>
     rw[b2] at e3
     cases e3
     rw[Bool.and_eq_true] at b2
     obtain rfl:=Nat.eq_of_beq_eq_true q1
     obtain rfl:ro=false:=by simpa using q2
     obtain rfl:=Zaw (Ztl b2.1)
     obtain rfl:=of_decide_eq_true b2.2
     exact Zd.Zz6 fits Hh (Zzm Hh) gl (n:=4000) (by kernel_rfl) rfl (by kernel_rfl) (by kernel_rfl) rfl h p heq
    | false=>rw[b2] at e3; cases e3
  ·cases e2
 ·cases e
end
end Go.Proofs.YtmdibcklpmeleaaGreatDoor
set_option maxRecDepth 100000
set_option maxHeartbeats 4000000
namespace Go.Proofs.YtmdibcklpmeleaaGreatDoor
open Go.Ev
theorem rs59:Tryz.f59.results.toList=[.tmp 2]:=rfl
theorem rs16:Tryz.f16.results.toList=[.tmp 2,.tmp 3]:=rfl
attribute [go_sem] rs59 rs16
def imB (L:List (List C)):Bool:=L.all fun x=>Nat.beq x.length 256&&x.all C.flat
theorem Z0c {L:List (List C)} (h:imB L=true) {x:List C} (hx:x∈L):x.length=256∧x.all C.flat=true:=by
 have:=List.all_eq_true.1 h x hx
 rw[Bool.and_eq_true] at this
 exact⟨Nat.eq_of_beq_eq_true this.1,this.2⟩
theorem Zmm {L:List (List C)} (h:imB L=true):L.all (fun l=>l.all C.flat)=true:=List.all_eq_true.2 fun x hx=>(Z0c h hx).2
theorem Ms {L:List (List C)} (h:imB L=true) {x:List C} (xl:x.length=256) (xf:x.all C.flat=true) (i:Nat):imB (L.set i x)=true:=List.all_eq_true.2 fun y hy=>by
 rcases List.mem_or_eq_of_mem_set hy with h1|rfl
 ·exact List.all_eq_true.1 h y h1
 ·rw[xl,xf]; rfl
theorem Zzn (n:Nat):imB (List.replicate n zB)=true:=List.all_eq_true.2 fun y hy=>by
 obtain rfl:=(List.mem_replicate.1 hy).2
 kernel_rfl
noncomputable def Zl7:Kn1:=fun args h=>match args with
 | [.c (.slice n 0 len z)]=>match h.get n with
  | some (.row s L _)=>Y2 (Nat.beq s 256&&Nat.beq z 256&&Nat.beq L.length len&&Nat.ble 1 len&&Nat.ble len 2048&&imB L) (some (.w (.c (.slice h.next 0 len 256)),h.new (.row 256 L false)))
  | _=>none
 | _=>none
noncomputable def Zyp:Kn1:=fun args h=>match args with
 | [.c (.slice n 0 len z)]=>match h.get n with
  | some (.row s L _)=>Y2 (Nat.beq s 256&&Nat.beq z 256&&Nat.beq L.length len&&Nat.ble 1 len&&Nat.ble len 2048&&imB L) (some (.tup [.c (.ptr (h.next+1+1) 0),.c (.int .i64 0)],((h.new (.row 256 L false)).new (.row 256 L false)).new (.row 6 [dkL ⟨h.next,h.next+1,len,.snil,0,0⟩] false)))
  | _=>none
 | _=>none
attribute [go_sem] Zl7 Zyp
section
variable (Hh:Hearts K Tryz.prog)
include Hh
theorem Zub {args:List W} {h h':Go.Ev.H} {v:V} (e:Zl7 args h=some (v,h')):Zd K Tryz.prog 59 args h v h':=by
 unfold Zl7 at e
 split at e
 ·rename_i n len z
  split at e
  ·rename_i s L ro heq
   obtain⟨q,e⟩:=Zu.1 e
   cases e
   simp only[Bool.and_eq_true] at q
   obtain⟨⟨⟨⟨⟨q1,q2⟩,q3⟩,q4⟩,q5⟩,q6⟩:=q
   obtain rfl:=Nat.eq_of_beq_eq_true q1
   obtain rfl:=Nat.eq_of_beq_eq_true q2
   have q3:=Nat.eq_of_beq_eq_true q3
   have q4:=Nat.le_of_ble_eq_true q4
   have q5:=Nat.le_of_ble_eq_true q5
   have rm:M6 256 L 0 256 len=some L:=by rw[←q3]; exact Zdj 256 L
   refine Zd.tidy ⟨Tryz.f59,Tryz.func59,by kernel_rfl,by decide⟩ fun tidy=>?_
   have l1:=tidy _ _ heq
   obtain⟨v,h',cc,n',rfl,n1,n2,n3,hk⟩:∃ v h',Zd K Tryz.prog 59 [.c (.slice n 0 len 256)] h v h'∧∃ n',v=.w (.c (.slice n' 0 len 256))∧h.next≤n'∧n'<h'.next∧h'.get n'=some (.row 256 L false)∧∀ m,m<h.next→h'.get m=h.get m:=by
    rcases L with _|⟨x0,L⟩
    ·simp only[List.length_nil] at q3; omega
    ·
     refine Zd.Ya fits Hh (by kernel_rfl) (by kernel_rfl) (by kernel_rfl) (show Tryz.f59.body=some _ from rfl) rfl ?_
     repeat (first
      | refine Goes.seq ?_
      | refine Goes.block ?_
      | refine Goes.loop ?_
      | refine Goes.skip ?_
      | refine Goes.exit ?_
      | refine Goes.ret ?_
      | refine Goes.Z4 (by simp (maxSteps:=9^6) +decide (disch:=first|omega|(simp only[lens]<;>omega)|decide) only [go_sem,Zc,Za,simprocAttr,heq,rm,q3,List.length_append,Nat.zero_add,Zm,O6,Ub,Un,X5,Nj,Xt,Qo,Yd,Um,Yb,List.replicate_succ,List.replicate_zero,Nat.zero_mul]<;>rfl) ?_
      | refine Goes.ops2 fits Hh Zb (by simp (maxSteps:=9^6) +decide (disch:=first|omega|(simp only[lens]<;>omega)|decide) only [go_sem,Zc,Za,simprocAttr,heq,rm,q3,List.length_append,Nat.zero_add,Zm,O6,Ub,Un,X5,Nj,Xt,Qo,Yd,Um,Yb,List.replicate_succ,List.replicate_zero,Nat.zero_mul]; rfl) ?_)
     exact⟨_,_,(by simp (maxSteps:=9^6) +decide (disch:=first|omega|(simp only[lens]<;>omega)|decide) only [go_sem,Zc,Za,simprocAttr]<;>rfl),_,rfl,(by first|omega|(simp only[H.Ze,H.Zj]<;>omega)),(by first|omega|(simp only[H.Ze,H.Zj]<;>omega)),(by rw[Mk (by rw[H.Zj,H.Ze]; omega)]),fun m hm=>by (first|(simp (discharger:=omega) only [H.get_put,H.Zh,H.Zk,H.Ze,H.Zg,H.Zj,if_neg]; done)|(simp only[H.get_put,H.Zh,H.Zk,H.Ze,H.Zg,H.Zj]; (repeat' split)<;>first|rfl|(exfalso; omega)|omega))⟩
   exact Zd.row1 cc n1 n3 (Zmm q6) n2 hk
  ·cases e
 ·cases e
theorem Z0n {args:List W} {h h':Go.Ev.H} {v:V} (e:Zyp args h=some (v,h')):Zd K Tryz.prog 16 args h v h':=by
 unfold Zyp at e
 split at e
 ·rename_i n len z
  split at e
  ·rename_i s L ro heq
   obtain⟨q,e⟩:=Zu.1 e
   cases e
   simp only[Bool.and_eq_true] at q
   obtain⟨⟨⟨⟨⟨q1,q2⟩,q3⟩,q4⟩,q5⟩,q6⟩:=q
   obtain rfl:=Nat.eq_of_beq_eq_true q1
   obtain rfl:=Nat.eq_of_beq_eq_true q2
   have q3:=Nat.eq_of_beq_eq_true q3
   have q4:=Nat.le_of_ble_eq_true q4
   have q5:=Nat.le_of_ble_eq_true q5
   refine Zd.tidy ⟨Tryz.f16,Tryz.func16,by kernel_rfl,by decide⟩ fun tidy=>?_
   have l1:=tidy _ _ heq
   refine Zd.goes fits Hh (by kernel_rfl) (by kernel_rfl) (by kernel_rfl) (show Tryz.f16.body=some _ from rfl) rfl ?_
   repeat (first
    | refine Goes.seq ?_
    | refine Goes.block ?_
    | refine Goes.loop ?_
    | refine Goes.skip ?_
    | refine Goes.exit ?_
    | refine Goes.ret ?_
    | refine Goes.Z4 (by simp (maxSteps:=9^6) +decide (disch:=first|omega|(simp only[lens]<;>omega)|decide) only [go_sem,Zc,Za,simprocAttr,heq,q3,q6,Zm,Yz,Zn]<;>rfl) ?_
    | refine Goes.ops2 fits Hh (Zf (Zf Zb (fun _ _ _ _=>Z7m Hh)) (fun _ _ _ _=>Zub Hh)) (by simp (maxSteps:=9^6) +decide (disch:=first|omega|(simp only[lens]<;>omega)|decide) only [go_sem,Zc,Za,simprocAttr,heq,q3,q6,Zm,Yz,Zn]; rfl) ?_)
   simp (maxSteps:=9^6) +decide (disch:=first|omega|(simp only[lens]<;>omega)|decide) only [go_sem,Zc,Za,simprocAttr]<;>rfl
  ·cases e
 ·cases e
end
end Go.Proofs.YtmdibcklpmeleaaGreatDoor
set_option maxRecDepth 100000
set_option maxHeartbeats 4000000
namespace Go.Proofs.YtmdibcklpmeleaaGreatDoor
open Go.Ev
theorem rs50:Tryz.f50.results.toList=[]:=rfl
attribute [go_sem] rs50
def Zg6 (a b c:Nat):List C:=pgL (Zas (Zru (Zag a b c) 0 Zfh))
structure Img (a b c d k:Nat) (L:List (List C)):Prop where
 len:L.length=2+d+a * b
 im:imB L=true
 de:L[1]? = some (Zg6 a b c)
 bm:∀ j,j<k→L[2+d+j * b+1]? = some (bmB (if j=0 then 1 else 0) c)
 tb:∀ j r,j<a→2+r<b→L[2+d+j * b+2+r]? = some zB
theorem Zio (u s:Nat):(bmB u s).length=256:=Bq _
theorem Zfc (u s:Nat):(bmB u s).all C.flat=true:=by simp [bmB,Og,C.flat]
theorem Bl {j k b:Nat} (h:j<k):j * b+b≤k * b:=by
 have:=Nat.mul_le_mul_right b h
 rwa [Nat.succ_mul] at this
theorem Img.step {a b c d k:Nat} {L:List (List C)} (I:Img a b c d k L) (hb:16≤b) (hk:k<a) {x:List C} (xl:x.length=256) (xf:x.all C.flat=true):Img a b c d (k+1) ((L.set (2+d+k * b) x).set (2+d+k * b+1) (bmB (if k=0 then 1 else 0) c)):=by
 have h0:=I.len
 have hs:=Bl (b:=b) hk
 refine⟨by rw[List.length_set,List.length_set]; exact h0,Ms (Ms I.im xl xf _) (Zio _ _) (Zfc _ _) _,?_,fun j hj=>?_,fun j r hj hr=>?_⟩
 ·rw[List.getElem?_set_ne (by omega),List.getElem?_set_ne (by omega)]
  exact I.de
 ·rcases Nat.lt_or_ge j k with h1|h1
  ·have:=Bl (b:=b) h1
   rw[List.getElem?_set_ne (by omega),List.getElem?_set_ne (by omega)]
   exact I.bm j h1
  ·obtain rfl:j=k:=by omega
   rw[List.getElem?_set_self (by rw[List.length_set]; omega)]
 ·have h1:j * b+2+r≠k * b∧j * b+2+r≠k * b+1:=by
   rcases Nat.lt_trichotomy j k with q|q|q
   ·have:=Bl (b:=b) q; omega
   ·subst q; omega
   ·have:=Bl (b:=b) q; omega
  rw[List.getElem?_set_ne (by omega),List.getElem?_set_ne (by omega)]
  exact I.tb j r hj hr
structure Image (a b c d:Nat) (L:List (List C)):Prop where
 len:L.length=2+d+a * b
 im:imB L=true
 de:L[1]? = some (Zg6 a b c)
 bm:∀ j,j<a→L[2+d+j * b+1]? = some (bmB (if j=0 then 1 else 0) c)
 ti:∀ j r,j<a→2+r<b→L[2+d+j * b+2+r]? = some (if j=0∧r=0 then Vy else zB)
theorem Img.last {a b c d:Nat} {L:List (List C)} (I:Img a b c d a L) (hb:16≤b) (ha:1≤a):Image a b c d (L.set (2+d+2) Vy):=by
 have h0:=I.len
 have h1:=Bl (b:=b) (show 0<a by omega)
 refine⟨by rw[List.length_set]; exact h0,Ms I.im Znz Zkx _,?_,fun j hj=>?_,fun j r hj hr=>?_⟩
 ·rw[List.getElem?_set_ne (by omega)]; exact I.de
 ·have:j * b≠1:=by
   rcases Nat.eq_zero_or_pos j with rfl|q
   ·omega
   ·have:=Bl (b:=b) q; omega
  rw[List.getElem?_set_ne (by omega)]
  exact I.bm j hj
 ·rcases Nat.eq_zero_or_pos j with rfl|q
  ·rcases Nat.eq_zero_or_pos r with rfl|q
   ·rw[Nat.zero_mul,Nat.add_zero,List.getElem?_set_self (by omega),if_pos ⟨rfl,rfl⟩]
   ·rw[List.getElem?_set_ne (by omega),if_neg (by omega)]
    exact I.tb 0 r hj hr
  ·have:=Bl (b:=b) q
   rw[List.getElem?_set_ne (by omega),if_neg (by omega)]
   exact I.tb j r hj hr
theorem Image.tb {a b c d:Nat} {L:List (List C)} (I:Image a b c d L) (hb:16≤b) (j:Nat) (hj:j<a):L[2+d+j * b+2]? = some (if j=0 then Vy else zB):=by
 have:=I.ti j 0 hj (by omega)
 rw[Nat.add_zero] at this
 rw[this]
 by_cases h:j=0
 ·rw[if_pos ⟨h,rfl⟩,if_pos h]
 ·rw[if_neg (fun e=>h e.1),if_neg h]
noncomputable def Ydq:Kn1:=fun args h=>match args with
 | [.c (.int .i64 u),.c (.int .i64 z)]=>(J4 u).bind fun u=>(J4 z).bind fun z=>Y2 (decide (u≤z)&&decide (z≤2048)) (some (.w (.g (bmB u z)),h))
 | _=>none
noncomputable def xWr:Kn1:=fun args h=>match args with
 | [.c (.int .i64 z),.g x,.c (.int .i64 e),.c (.ptr _ 0),.c (.ptr q 0)]=>(J4 z).bind fun i=>match h.get q with
  | some (.row s [[.slice r 0 len w]] _)=>(match h.get r with
   | some (.row s2 L ro)=>Y2 (Nat.beq s 1&&Nat.beq w 256&&Nat.beq s2 256&&!ro&&decide (e=0)&&Nat.beq x.length 256&&x.all C.flat&&decide (i<len)&&Nat.beq L.length len&&imB L) (some (.tup [],h.put r (.row 256 (L.set i x) false)))
   | _=>none)
  | _=>none
 | _=>none
attribute [go_sem] Ydq xWr
section
variable (Hh:Hearts K Tryz.prog)
include Hh
theorem Zir {args:List W} {h h':Go.Ev.H} {v:V} (e:Ydq args h=some (v,h')):Zd K Tryz.prog 56 args h v h':=by
 unfold Ydq at e
 split at e
 ·obtain⟨u,hu,e⟩:=Zo e
  obtain⟨z,hz,e⟩:=Zo e
  obtain⟨b,e⟩:=Zu.1 e
  simp only[Bool.and_eq_true,decide_eq_true_eq] at b
  cases e
  rw[Z6 hu,Z6 hz]
  exact Zsr Hh h u z b.1 b.2
 ·cases e
theorem Qz {args:List W} {h h':Go.Ev.H} {v:V} (e:xWr args h=some (v,h')):Zd K Tryz.prog 50 args h v h':=by
 unfold xWr at e
 split at e
 ·rename_i z x e0 q5 q
  obtain⟨i,hi,e⟩:=Zo e
  split at e
  ·rename_i s r len w ro heq
   split at e
   ·rename_i s2 L ro2 heq2
    obtain⟨b,e2⟩:=Zu.1 e
    clear e
    simp only[Bool.and_eq_true,decide_eq_true_eq,Bool.not_eq_true'] at b
    obtain⟨⟨⟨⟨⟨⟨⟨⟨⟨b1,b2⟩,b3⟩,rfl⟩,rfl⟩,b6⟩,xf⟩,il⟩,b9⟩,im⟩:=b
    obtain rfl:=Nat.eq_of_beq_eq_true b1
    obtain rfl:=Nat.eq_of_beq_eq_true b2
    obtain rfl:=Nat.eq_of_beq_eq_true b3
    have xl:=Nat.eq_of_beq_eq_true b6
    have Ll:=Nat.eq_of_beq_eq_true b9
    cases e2
    rw[Z6 hi]
    refine Zd.tidy ⟨Tryz.f50,Tryz.func50,by kernel_rfl,by decide⟩ fun tidy=>?_
    have l1:=tidy _ _ heq
    have l2:=tidy _ _ heq2
    obtain⟨y,hy⟩:∃ y,L[i]? = some y:=⟨_,List.getElem?_eq_getElem (by omega)⟩
    have yl:=(Z0c im (List.mem_of_getElem? hy)).1
    have wr:Zx 256 L (i * 256) x=some (L.set i x):=Ztk xl (by omega) hy yl
    obtain⟨v,h',c,rfl,hk⟩:∃ v h',Zd K Tryz.prog 50 [.c (.int .i64 (i:Int)),.g x,.c (.int .i64 0),.c (.ptr q5 0),.c (.ptr q 0)] h v h'∧v=.tup []∧∀ m,m<h.next→h'.get m=(h.put r (.row 256 (L.set i x) false)).get m:=by
     refine Zd.Ya fits Hh (by kernel_rfl) (by kernel_rfl) (by kernel_rfl) (show Tryz.f50.body=some _ from rfl) rfl ?_
     repeat (first
      | refine Goes.seq ?_
      | refine Goes.block ?_
      | refine Goes.loop ?_
      | refine Goes.skip ?_
      | refine Goes.exit ?_
      | refine Goes.ret ?_
      | refine Goes.Z4 (by simp (maxSteps:=9^6) +decide (disch:=first|omega|(simp only[lens]<;>omega)|decide) only [go_sem,Za,simprocAttr,heq,heq2,wr,xl,Nat.zero_add,read1,Zn]<;>rfl) ?_
      | refine Goes.ops2 fits Hh Zb (by simp (maxSteps:=9^6) +decide (disch:=first|omega|(simp only[lens]<;>omega)|decide) only [go_sem,Za,simprocAttr,heq,heq2,wr,xl,Nat.zero_add,read1,Zn]; rfl) ?_)
     exact⟨_,_,(by simp (maxSteps:=9^6) +decide (disch:=first|omega|(simp only[lens]<;>omega)|decide) only [go_sem,Za,simprocAttr]<;>rfl),rfl,fun m hm=>by (first|(simp (discharger:=omega) only [H.get_put,H.Zh,H.Zk,H.Ze,H.Zg,H.Zj,if_neg]; done)|(simp only[H.get_put,H.Zh,H.Zk,H.Ze,H.Zg,H.Zj]; (repeat' split)<;>first|rfl|(exfalso; omega)|omega))⟩
    refine c.settle ((Ri.refl tidy).put l2 (Zpw fun τ _=>?_)) (Zhv.flat rfl) hk
    exact U4 (fun l hl=>U4 (fun a ha=>C.Ji ha _) hl) (Zmm (Ms im xl xf i))
   ·cases e
  ·cases e
 ·cases e
end
end Go.Proofs.YtmdibcklpmeleaaGreatDoor
set_option maxRecDepth 100000
set_option maxHeartbeats 4000000
namespace Go.Proofs.YtmdibcklpmeleaaGreatDoor
open Go.Ev
theorem ty28:K.types.get 28=some ti28:=by kernel_rfl
theorem sz28:ti28.size=11:=by rfl
theorem ag28:ti28.agg=true:=by rfl
theorem de28:ti28.desc=(.array 11 27):=by rfl
theorem ze28:ti28.zero=(.g ((List.replicate 11 (.int .u32 0)))):=by rfl
theorem by28:ti28.bytes=44:=by rfl
theorem eq28 (a b:List C):eqT K 20 28 (.g a) (.g b)=(bif true&&Nat.beq a.length 11&&Nat.beq b.length 11 then Ym a b else none):=by kernel_rfl
theorem ty30:K.types.get 30=some ti30:=by kernel_rfl
theorem sz30:ti30.size=16:=by rfl
theorem ag30:ti30.agg=true:=by rfl
theorem fo30_0:Zr K 30 0=some (0,ti5):=by kernel_rfl
theorem fo30_1:Zr K 30 1=some (1,ti3):=by kernel_rfl
theorem fo30_2:Zr K 30 2=some (2,ti27):=by kernel_rfl
theorem fo30_3:Zr K 30 3=some (3,ti3):=by kernel_rfl
theorem fo30_4:Zr K 30 4=some (4,ti28):=by kernel_rfl
theorem fo30_5:Zr K 30 5=some (15,ti27):=by kernel_rfl
theorem bu30 (ps:List (Nat × W)):Yi K 30 (some ps)=gW (Z7 K 30 ps ti30.zero.cells):=by kernel_rfl
theorem ze30:ti30.zero=(.g ([.int .u8 0,.int .i64 0,.int .u32 0,.int .i64 0,.int .u32 0,.int .u32 0,.int .u32 0,.int .u32 0,.int .u32 0,.int .u32 0,.int .u32 0,.int .u32 0,.int .u32 0,.int .u32 0,.int .u32 0,.int .u32 0])):=by rfl
theorem by30:ti30.bytes=80:=by rfl
theorem ty109:K.types.get 109=some ti109:=by kernel_rfl
theorem sz109:ti109.size=2:=by rfl
theorem ag109:ti109.agg=true:=by rfl
theorem fo109_0:Zr K 109 0=some (0,ti27):=by kernel_rfl
theorem fo109_1:Zr K 109 1=some (1,ti3):=by kernel_rfl
theorem bu109 (ps:List (Nat × W)):Yi K 109 (some ps)=gW (Z7 K 109 ps ti109.zero.cells):=by kernel_rfl
theorem ze109:ti109.zero=(.g ([.int .u32 0,.int .i64 0])):=by rfl
theorem by109:ti109.bytes=16:=by rfl
attribute [go_sem] ty28 sz28 ag28 de28 ze28 by28 eq28 ty30 sz30 ag30 fo30_0 fo30_1 fo30_2 fo30_3 fo30_4 fo30_5 bu30 ze30 by30 ty109 sz109 ag109 fo109_0 fo109_1 bu109 ze109 by109
noncomputable def q15 (p:List Nat):Code:=piece p (Z5 Tryz.f15)
theorem Yit:q15 []=.seq (q15 [0]) (q15 [1]):=by kernel_rfl
theorem q15_0:q15 [0]=.region 0 (Zt (q15 [0])) false:=by kernel_rfl
theorem q15_1:q15 [1]=.seq (q15 [1,0]) (q15 [1,1]):=by kernel_rfl
theorem Ydn:q15 [1,0]=.seq (q15 [1,0,0]) (q15 [1,0,1]):=by kernel_rfl
theorem Ybq:q15 [1,0,0]=.region 1 (Zt (q15 [1,0,0])) false:=by kernel_rfl
theorem Ybn:q15 [1,0,1]=.cond (.tmp 18) (q15 [1,0,1,3]) (q15 [1,0,1,4]):=by kernel_rfl
theorem Z8k:q15 [1,0,1,4]=.skip:=by kernel_rfl
theorem Yfy:q15 [1,1]=.seq (q15 [1,1,0]) (q15 [1,1,1]):=by kernel_rfl
theorem Ycd:q15 [1,1,0]=.region 3 (Zt (q15 [1,1,0])) false:=by kernel_rfl
theorem Yau:q15 [1,1,1]=.seq (q15 [1,1,1,0]) (q15 [1,1,1,1]):=by kernel_rfl
theorem Z9c:q15 [1,1,1,0]=.region 4 (Zt (q15 [1,1,1,0])) false:=by kernel_rfl
theorem Z81:q15 [1,1,1,1]=.seq (q15 [1,1,1,1,0]) (q15 [1,1,1,1,1]):=by kernel_rfl
theorem Z3z:q15 [1,1,1,1,0]=.region 5 (Zt (q15 [1,1,1,1,0])) false:=by kernel_rfl
theorem Z2v:q15 [1,1,1,1,1]=.seq (q15 [1,1,1,1,1,0]) (q15 [1,1,1,1,1,1]):=by kernel_rfl
theorem Zwq:q15 [1,1,1,1,1,0]=.region 6 (Zt (q15 [1,1,1,1,1,0])) false:=by kernel_rfl
theorem Zw7:q15 [1,1,1,1,1,1]=.seq (q15 [1,1,1,1,1,1,0]) (q15 [1,1,1,1,1,1,1]):=by kernel_rfl
theorem Zt1:q15 [1,1,1,1,1,1,0]=.region 7 (Zt (q15 [1,1,1,1,1,1,0])) false:=by kernel_rfl
theorem Zta:q15 [1,1,1,1,1,1,1]=.seq (q15 [1,1,1,1,1,1,1,0]) (q15 [1,1,1,1,1,1,1,1]):=by kernel_rfl
theorem Zp7:q15 [1,1,1,1,1,1,1,0]=.region 8 (Zt (q15 [1,1,1,1,1,1,1,0])) true:=by kernel_rfl
theorem Zpp:q15 [1,1,1,1,1,1,1,1]=.seq (q15 [1,1,1,1,1,1,1,1,0]) (q15 [1,1,1,1,1,1,1,1,1]):=by kernel_rfl
theorem Zm1:q15 [1,1,1,1,1,1,1,1,0]=.region 9 (Zt (q15 [1,1,1,1,1,1,1,1,0])) false:=by kernel_rfl
theorem Znb:q15 [1,1,1,1,1,1,1,1,1]=.seq (q15 [1,1,1,1,1,1,1,1,1,0]) (q15 [1,1,1,1,1,1,1,1,1,1]):=by kernel_rfl
theorem Zl1:q15 [1,1,1,1,1,1,1,1,1,0]=.region 10 (Zt (q15 [1,1,1,1,1,1,1,1,1,0])) false:=by kernel_rfl
theorem Zlr:q15 [1,1,1,1,1,1,1,1,1,1]=.seq (q15 [1,1,1,1,1,1,1,1,1,1,0]) (q15 [1,1,1,1,1,1,1,1,1,1,1]):=by kernel_rfl
theorem Zh8:q15 [1,1,1,1,1,1,1,1,1,1,0]=.region 11 (Zt (q15 [1,1,1,1,1,1,1,1,1,1,0])) false:=by kernel_rfl
theorem Zie:q15 [1,1,1,1,1,1,1,1,1,1,1]=.seq (q15 [1,1,1,1,1,1,1,1,1,1,1,0]) (q15 [1,1,1,1,1,1,1,1,1,1,1,1]):=by kernel_rfl
theorem Zf5:q15 [1,1,1,1,1,1,1,1,1,1,1,0]=.seq (q15 [1,1,1,1,1,1,1,1,1,1,1,0,0]) (q15 [1,1,1,1,1,1,1,1,1,1,1,0,1]):=by kernel_rfl
theorem Zff:q15 [1,1,1,1,1,1,1,1,1,1,1,0,0]=.region 12 (Zt (q15 [1,1,1,1,1,1,1,1,1,1,1,0,0])) false:=by kernel_rfl
theorem Zee:q15 [1,1,1,1,1,1,1,1,1,1,1,0,1]=.block 0 (q15 [1,1,1,1,1,1,1,1,1,1,1,0,1,2]):=by kernel_rfl
theorem Ou:q15 [1,1,1,1,1,1,1,1,1,1,1,0,1,2]=.loop (q15 [1,1,1,1,1,1,1,1,1,1,1,0,1,2,2]):=by kernel_rfl
theorem Ew:q15 [1,1,1,1,1,1,1,1,1,1,1,0,1,2,2]=.seq (q15 [1,1,1,1,1,1,1,1,1,1,1,0,1,2,2,0]) (q15 [1,1,1,1,1,1,1,1,1,1,1,0,1,2,2,1]):=by kernel_rfl
theorem Dv:q15 [1,1,1,1,1,1,1,1,1,1,1,0,1,2,2,0]=.region 13 (Zt (q15 [1,1,1,1,1,1,1,1,1,1,1,0,1,2,2,0])) false:=by kernel_rfl
theorem D5:q15 [1,1,1,1,1,1,1,1,1,1,1,0,1,2,2,1]=.seq (q15 [1,1,1,1,1,1,1,1,1,1,1,0,1,2,2,1,0]) (q15 [1,1,1,1,1,1,1,1,1,1,1,0,1,2,2,1,1]):=by kernel_rfl
theorem Bv:q15 [1,1,1,1,1,1,1,1,1,1,1,0,1,2,2,1,0]=.cond (.tmp 56) (q15 [1,1,1,1,1,1,1,1,1,1,1,0,1,2,2,1,0,3]) (q15 [1,1,1,1,1,1,1,1,1,1,1,0,1,2,2,1,0,4]):=by kernel_rfl
theorem Le:q15 [1,1,1,1,1,1,1,1,1,1,1,0,1,2,2,1,0,3]=.skip:=by kernel_rfl
theorem Xf:q15 [1,1,1,1,1,1,1,1,1,1,1,0,1,2,2,1,0,4]=.exit 0:=by kernel_rfl
theorem L9:q15 [1,1,1,1,1,1,1,1,1,1,1,0,1,2,2,1,1]=.seq (q15 [1,1,1,1,1,1,1,1,1,1,1,0,1,2,2,1,1,0]) (q15 [1,1,1,1,1,1,1,1,1,1,1,0,1,2,2,1,1,1]):=by kernel_rfl
theorem F8:q15 [1,1,1,1,1,1,1,1,1,1,1,0,1,2,2,1,1,0]=.block 1 (q15 [1,1,1,1,1,1,1,1,1,1,1,0,1,2,2,1,1,0,2]):=by kernel_rfl
theorem Fq:q15 [1,1,1,1,1,1,1,1,1,1,1,0,1,2,2,1,1,0,2]=.seq (q15 [1,1,1,1,1,1,1,1,1,1,1,0,1,2,2,1,1,0,2,0]) (q15 [1,1,1,1,1,1,1,1,1,1,1,0,1,2,2,1,1,0,2,1]):=by kernel_rfl
theorem E8:q15 [1,1,1,1,1,1,1,1,1,1,1,0,1,2,2,1,1,0,2,0]=.region 14 (Zt (q15 [1,1,1,1,1,1,1,1,1,1,1,0,1,2,2,1,1,0,2,0])) false:=by kernel_rfl
theorem Ex:q15 [1,1,1,1,1,1,1,1,1,1,1,0,1,2,2,1,1,0,2,1]=.seq (q15 [1,1,1,1,1,1,1,1,1,1,1,0,1,2,2,1,1,0,2,1,0]) (q15 [1,1,1,1,1,1,1,1,1,1,1,0,1,2,2,1,1,0,2,1,1]):=by kernel_rfl
theorem Es:q15 [1,1,1,1,1,1,1,1,1,1,1,0,1,2,2,1,1,0,2,1,0]=.region 15 (Zt (q15 [1,1,1,1,1,1,1,1,1,1,1,0,1,2,2,1,1,0,2,1,0])) false:=by kernel_rfl
theorem Er:q15 [1,1,1,1,1,1,1,1,1,1,1,0,1,2,2,1,1,0,2,1,1]=.seq (q15 [1,1,1,1,1,1,1,1,1,1,1,0,1,2,2,1,1,0,2,1,1,0]) (q15 [1,1,1,1,1,1,1,1,1,1,1,0,1,2,2,1,1,0,2,1,1,1]):=by kernel_rfl
theorem D7:q15 [1,1,1,1,1,1,1,1,1,1,1,0,1,2,2,1,1,0,2,1,1,0]=.region 16 (Zt (q15 [1,1,1,1,1,1,1,1,1,1,1,0,1,2,2,1,1,0,2,1,1,0])) false:=by kernel_rfl
theorem Dz:q15 [1,1,1,1,1,1,1,1,1,1,1,0,1,2,2,1,1,0,2,1,1,1]=.seq (q15 [1,1,1,1,1,1,1,1,1,1,1,0,1,2,2,1,1,0,2,1,1,1,0]) (q15 [1,1,1,1,1,1,1,1,1,1,1,0,1,2,2,1,1,0,2,1,1,1,1]):=by kernel_rfl
theorem Da:q15 [1,1,1,1,1,1,1,1,1,1,1,0,1,2,2,1,1,0,2,1,1,1,0]=.region 17 (Zt (q15 [1,1,1,1,1,1,1,1,1,1,1,0,1,2,2,1,1,0,2,1,1,1,0])) false:=by kernel_rfl
theorem Dj:q15 [1,1,1,1,1,1,1,1,1,1,1,0,1,2,2,1,1,0,2,1,1,1,1]=.seq (q15 [1,1,1,1,1,1,1,1,1,1,1,0,1,2,2,1,1,0,2,1,1,1,1,0]) (q15 [1,1,1,1,1,1,1,1,1,1,1,0,1,2,2,1,1,0,2,1,1,1,1,1]):=by kernel_rfl
theorem Bi:q15 [1,1,1,1,1,1,1,1,1,1,1,0,1,2,2,1,1,0,2,1,1,1,1,0]=.seq (q15 [1,1,1,1,1,1,1,1,1,1,1,0,1,2,2,1,1,0,2,1,1,1,1,0,0]) (q15 [1,1,1,1,1,1,1,1,1,1,1,0,1,2,2,1,1,0,2,1,1,1,1,0,1]):=by kernel_rfl
theorem G6:q15 [1,1,1,1,1,1,1,1,1,1,1,0,1,2,2,1,1,0,2,1,1,1,1,0,0]=.region 18 (Zt (q15 [1,1,1,1,1,1,1,1,1,1,1,0,1,2,2,1,1,0,2,1,1,1,1,0,0])) false:=by kernel_rfl
theorem Gx:q15 [1,1,1,1,1,1,1,1,1,1,1,0,1,2,2,1,1,0,2,1,1,1,1,0,1]=.cond (.tmp 75) (q15 [1,1,1,1,1,1,1,1,1,1,1,0,1,2,2,1,1,0,2,1,1,1,1,0,1,3]) (q15 [1,1,1,1,1,1,1,1,1,1,1,0,1,2,2,1,1,0,2,1,1,1,1,0,1,4]):=by kernel_rfl
theorem Mh:q15 [1,1,1,1,1,1,1,1,1,1,1,0,1,2,2,1,1,0,2,1,1,1,1,0,1,3]=.region 19 (Zt (q15 [1,1,1,1,1,1,1,1,1,1,1,0,1,2,2,1,1,0,2,1,1,1,1,0,1,3])) false:=by kernel_rfl
theorem Mj:q15 [1,1,1,1,1,1,1,1,1,1,1,0,1,2,2,1,1,0,2,1,1,1,1,0,1,4]=.skip:=by kernel_rfl
theorem Bn:q15 [1,1,1,1,1,1,1,1,1,1,1,0,1,2,2,1,1,0,2,1,1,1,1,1]=.region 20 (Zt (q15 [1,1,1,1,1,1,1,1,1,1,1,0,1,2,2,1,1,0,2,1,1,1,1,1])) false:=by kernel_rfl
theorem Lp:q15 [1,1,1,1,1,1,1,1,1,1,1,0,1,2,2,1,1,1]=.region 21 (Zt (q15 [1,1,1,1,1,1,1,1,1,1,1,0,1,2,2,1,1,1])) false:=by kernel_rfl
theorem Zf3:q15 [1,1,1,1,1,1,1,1,1,1,1,1]=.seq (q15 [1,1,1,1,1,1,1,1,1,1,1,1,0]) (q15 [1,1,1,1,1,1,1,1,1,1,1,1,1]):=by kernel_rfl
theorem Zd5:q15 [1,1,1,1,1,1,1,1,1,1,1,1,0]=.region 22 (Zt (q15 [1,1,1,1,1,1,1,1,1,1,1,1,0])) false:=by kernel_rfl
theorem Zfb:q15 [1,1,1,1,1,1,1,1,1,1,1,1,1]=.seq (q15 [1,1,1,1,1,1,1,1,1,1,1,1,1,0]) (q15 [1,1,1,1,1,1,1,1,1,1,1,1,1,1]):=by kernel_rfl
theorem Zc9:q15 [1,1,1,1,1,1,1,1,1,1,1,1,1,0]=.region 23 (Zt (q15 [1,1,1,1,1,1,1,1,1,1,1,1,1,0])) false:=by kernel_rfl
theorem Zcj:q15 [1,1,1,1,1,1,1,1,1,1,1,1,1,1]=.seq (q15 [1,1,1,1,1,1,1,1,1,1,1,1,1,1,0]) (q15 [1,1,1,1,1,1,1,1,1,1,1,1,1,1,1]):=by kernel_rfl
theorem Zbo:q15 [1,1,1,1,1,1,1,1,1,1,1,1,1,1,0]=.region 24 (Zt (q15 [1,1,1,1,1,1,1,1,1,1,1,1,1,1,0])) false:=by kernel_rfl
theorem Zbp:q15 [1,1,1,1,1,1,1,1,1,1,1,1,1,1,1]=.seq (q15 [1,1,1,1,1,1,1,1,1,1,1,1,1,1,1,0]) (q15 [1,1,1,1,1,1,1,1,1,1,1,1,1,1,1,1]):=by kernel_rfl
theorem Q7:q15 [1,1,1,1,1,1,1,1,1,1,1,1,1,1,1,0]=.region 25 (Zt (q15 [1,1,1,1,1,1,1,1,1,1,1,1,1,1,1,0])) false:=by kernel_rfl
theorem Qp:q15 [1,1,1,1,1,1,1,1,1,1,1,1,1,1,1,1]=.seq (q15 [1,1,1,1,1,1,1,1,1,1,1,1,1,1,1,1,0]) (q15 [1,1,1,1,1,1,1,1,1,1,1,1,1,1,1,1,1]):=by kernel_rfl
theorem Qh:q15 [1,1,1,1,1,1,1,1,1,1,1,1,1,1,1,1,0]=.seq (q15 [1,1,1,1,1,1,1,1,1,1,1,1,1,1,1,1,0,0]) (q15 [1,1,1,1,1,1,1,1,1,1,1,1,1,1,1,1,0,1]):=by kernel_rfl
theorem Wt:q15 [1,1,1,1,1,1,1,1,1,1,1,1,1,1,1,1,0,0]=.region 26 (Zt (q15 [1,1,1,1,1,1,1,1,1,1,1,1,1,1,1,1,0,0])) false:=by kernel_rfl
theorem Xv:q15 [1,1,1,1,1,1,1,1,1,1,1,1,1,1,1,1,0,1]=.cond (.tmp 101) (q15 [1,1,1,1,1,1,1,1,1,1,1,1,1,1,1,1,0,1,3]) (q15 [1,1,1,1,1,1,1,1,1,1,1,1,1,1,1,1,0,1,4]):=by kernel_rfl
theorem Xc:q15 [1,1,1,1,1,1,1,1,1,1,1,1,1,1,1,1,0,1,4]=.skip:=by kernel_rfl
theorem Qk:q15 [1,1,1,1,1,1,1,1,1,1,1,1,1,1,1,1,1]=.seq (q15 [1,1,1,1,1,1,1,1,1,1,1,1,1,1,1,1,1,0]) (q15 [1,1,1,1,1,1,1,1,1,1,1,1,1,1,1,1,1,1]):=by kernel_rfl
theorem Wl:q15 [1,1,1,1,1,1,1,1,1,1,1,1,1,1,1,1,1,0]=.region 28 (Zt (q15 [1,1,1,1,1,1,1,1,1,1,1,1,1,1,1,1,1,0])) false:=by kernel_rfl
theorem Xm:q15 [1,1,1,1,1,1,1,1,1,1,1,1,1,1,1,1,1,1]=.ret:=by kernel_rfl
theorem rs15:Tryz.f15.results.toList=[.tmp 2,.tmp 3]:=rfl
attribute [go_sem] rs15
theorem Zvq {a b c:Nat} (h:1≤a):(Zag a b c).length=a:=by
 rw[Zag,List.length_cons,List.length_replicate]
 omega
theorem Zwf {a b c:Nat} (h:1≤c):(Zag a b c).all (Zwm (b - 2 - c / 4) c)=true:=by
 refine List.all_eq_true.2 fun x hx=>?_
 rcases List.mem_cons.1 hx with rfl|hx
 ·simp only[Zwm]
  rw[Wx (Nat.le_refl _),Wx (by omega),Wx (by omega)]
  rfl
 ·obtain rfl:=(List.mem_replicate.1 hx).2
  simp only[Zwm]
  rw[Wx (Nat.le_refl _),Wx (Nat.le_refl _),Wx (by omega)]
  rfl
theorem Zu2:∀ (D:List Zba) (i:Nat) (x:List Nat),(Zru D i x).length=x.length
 | [],_,_=>rfl
 | d :: D,i,x=>by rw[Zru,Zu2 D,Zqb]
theorem Zo0 (a b c:Nat):(Zg6 a b c).length=256:=by
 rw[Zg6,Et,Zas,Ye,Zu2]
 exact Zim
theorem Zl9 (a b c:Nat):(Zg6 a b c).all C.flat=true:=Nz _
section
variable (Hh:Hearts K Tryz.prog)
include Hh
theorem Yey {a b c d n N:Nat} (f:U7 a b c d=true) (hN:2+d+a * b=N):∀ (j k:Nat) (L:List (List C)) (ts:Zy) (h:Go.Ev.H),k+j=a→Img a b c d k L→h.get n=some (.row 4 [[.int .i64 (a:Int),.int .i64 (b:Int),.int .i64 (c:Int),.int .i64 (d:Int)]] false)→h.get (n+1)=some (.row 256 L false)→h.get (n+1+1)=some (.row 1 [[.slice (n+1) 0 N 256]] false) →
  Zp ts 1=.w (.c (.ptr n 0))→Zp ts 6=.w (.c (.fn 50 [] [some (n+1+1+1,0),some (n+1+1,0)]))→Zp ts 54=.w (.c (.int .i64 (a:Int)))→Zp ts 55=.w (.c (.int .i64 (k:Int))) →
  Goes K Tryz.prog 104 none (q15 [1,1,1,1,1,1,1,1,1,1,1,0,1,2]) [] ts h fun x ds' ts' h'=>x=.exit 0∧ds'=[]∧h'.next=h.next∧(∃ L',Img a b c d a L'∧h'.get (n+1)=some (.row 256 L' false))∧(∀ m,m≠n+1→h'.get m=h.get m)∧∀ s,s≤8→Zp ts' s=Zp ts s:=by
 obtain⟨g1,g2,g3,g4,g5,g6,g7,g8,g9,g10,g11⟩:=Yn f
 intro j
 induction j with
 | zero =>
  intro k L ts h hk I hg hL hs h1 h6 h54 h55
  obtain rfl:k=a:=by omega
  refine Goes.Lm Ou (Goes.loop ?_)
  refine Goes.Zq Ew ?_
  refine Goes.Zw Dv fits Hh Zb (by
   simp (maxSteps:=9^6) +decide (disch:=first|omega|(simp only[lens]<;>omega)|decide) only [go_sem,q15,Tryz.f15,Zc,Za,simprocAttr,h54,h55]
   rfl) ?_
  refine Goes.Zq D5 ?_
  refine Goes.Yy Bv (by simp (maxSteps:=9^6) +decide (disch:=first|omega|(simp only[lens]<;>omega)|decide) only [go_sem,Zc,Za,simprocAttr,h54,h55]<;>rfl) (by first|rfl|assumption|exact decide_eq_false (by omega)|(simp; omega)) ?_
  refine Goes.Zln Xf ?_
  refine⟨rfl,rfl,rfl,⟨L,I,hL⟩,fun _ _=>rfl,fun s hs=>?_⟩
  simp (decide:=true) only [Uj hs]
 | succ j ih =>
  intro k L ts h hk I hg hL hs h1 h6 h54 h55
  have ka:k<a:=by omega
  have Ll:L.length=N:=by rw[I.len,hN]
  have im:=I.im
  have st:=Bl (b:=b) ka
  have bx:=Zio (2+c / 4) b
  have bxf:=Zfc (2+c / 4) b
  have e1:((2+d+k * b:Nat):Int)+1=((2+d+k * b+1:Nat):Int):=rfl
  have e2:(2:Int)+((c / 4:Nat):Int)=((2+c / 4:Nat):Int):=rfl
  have e3:(k:Int)+1=((k+1:Nat):Int):=rfl
  have q1:V5 .i64 (c:Int) 4=some (.int .i64 ((c / 4:Nat):Int)):=Lt (b:=4) (by omega) (by omega)
  have i1:imB (L.set (2+d+k * b) (bmB (2+c / 4) b))=true:=Ms im bx bxf _
  have I2:=I.step g3 ka bx bxf
  obtain⟨z,hz⟩:∃ z,2+d+k * b=z:=⟨_,rfl⟩
  rw[hz] at e1 i1 I2
  by_cases k0:k=0
  ·rw[if_pos k0] at I2
   have bl:=Zio 1 c
   have bf:=Zfc 1 c
   refine Goes.Lm Ou (Goes.loop ?_)
   refine Goes.Zq Ew ?_
   refine Goes.Zw Dv fits Hh Zb (by
    simp (maxSteps:=9^6) +decide (disch:=first|omega|(simp only[lens]<;>omega)|decide) only [go_sem,q15,Tryz.f15,Zc,Za,simprocAttr,f,hg,hL,hs,h1,h6,h54,h55,hz,e1,e2,e3,q1,Ll,im,i1,bx,bxf,bl,bf,List.length_set,List.map_cons,Oi,List.cons_append,read1]
    rfl) ?_
   refine Goes.Zq D5 ?_
   refine Goes.Ob Bv (by simp (maxSteps:=9^6) +decide (disch:=first|omega|(simp only[lens]<;>omega)|decide) only [go_sem,Zc,Za,simprocAttr,f,hg,hL,hs,h1,h6,h54,h55,hz,e1,e2,e3,q1,Ll,im,i1,bx,bxf,bl,bf,List.length_set,List.map_cons,Oi,List.cons_append,read1]<;>rfl) (by first|rfl|assumption|exact decide_eq_true (by omega)|(simp; omega)) ?_
   refine Goes.Jc Le ?_
   refine Goes.Zq L9 ?_
   refine Goes.Ul F8 (Goes.block ?_)
   refine Goes.Zq Fq ?_
   refine Goes.Zw E8 fits Hh Zb (by
    simp (maxSteps:=9^6) +decide (disch:=first|omega|(simp only[lens]<;>omega)|decide) only [go_sem,q15,Tryz.f15,Zc,Za,simprocAttr,f,hg,hL,hs,h1,h6,h54,h55,hz,e1,e2,e3,q1,Ll,im,i1,bx,bxf,bl,bf,List.length_set,List.map_cons,Oi,List.cons_append,read1]
    rfl) ?_
   refine Goes.Zq Ex ?_
   refine Goes.Zw Es fits Hh (Zf Zb (fun _ _ _ _=>X0 Hh)) (by
    simp (maxSteps:=9^6) +decide (disch:=first|omega|(simp only[lens]<;>omega)|decide) only [go_sem,q15,Tryz.f15,Zc,Za,simprocAttr,f,hg,hL,hs,h1,h6,h54,h55,hz,e1,e2,e3,q1,Ll,im,i1,bx,bxf,bl,bf,List.length_set,List.map_cons,Oi,List.cons_append,read1]
    rfl) ?_
   refine Goes.Zq Er ?_
   refine Goes.Zw D7 fits Hh (Zf (Zf Zb (fun _ _ _ _=>Zir Hh)) (fun _ _ _ _=>Qz Hh)) (by
    simp (maxSteps:=9^6) +decide (disch:=first|omega|(simp only[lens]<;>omega)|decide) only [go_sem,q15,Tryz.f15,Zc,Za,simprocAttr,f,hg,hL,hs,h1,h6,h54,h55,hz,e1,e2,e3,q1,Ll,im,i1,bx,bxf,bl,bf,List.length_set,List.map_cons,Oi,List.cons_append,read1]
    rfl) ?_
   refine Goes.Zq Dz ?_
   refine Goes.Zw Da fits Hh Zb (by
    simp (maxSteps:=9^6) +decide (disch:=first|omega|(simp only[lens]<;>omega)|decide) only [go_sem,q15,Tryz.f15,Zc,Za,simprocAttr,f,hg,hL,hs,h1,h6,h54,h55,hz,e1,e2,e3,q1,Ll,im,i1,bx,bxf,bl,bf,List.length_set,List.map_cons,Oi,List.cons_append,read1]
    rfl) ?_
   refine Goes.Zq Dj ?_
   refine Goes.Zq Bi ?_
   refine Goes.Zw G6 fits Hh Zb (by
    simp (maxSteps:=9^6) +decide (disch:=first|omega|(simp only[lens]<;>omega)|decide) only [go_sem,q15,Tryz.f15,Zc,Za,simprocAttr,f,hg,hL,hs,h1,h6,h54,h55,hz,e1,e2,e3,q1,Ll,im,i1,bx,bxf,bl,bf,List.length_set,List.map_cons,Oi,List.cons_append,read1]
    rfl) ?_
   refine Goes.Ob Gx (by simp (maxSteps:=9^6) +decide (disch:=first|omega|(simp only[lens]<;>omega)|decide) only [go_sem,Zc,Za,simprocAttr,f,hg,hL,hs,h1,h6,h54,h55,hz,e1,e2,e3,q1,Ll,im,i1,bx,bxf,bl,bf,List.length_set,List.map_cons,Oi,List.cons_append,read1]<;>rfl) (by first|rfl|assumption|exact decide_eq_true (by omega)|(simp; omega)) ?_
   refine Goes.Zw Mh fits Hh Zb (by
    simp (maxSteps:=9^6) +decide (disch:=first|omega|(simp only[lens]<;>omega)|decide) only [go_sem,q15,Tryz.f15,Zc,Za,simprocAttr,f,hg,hL,hs,h1,h6,h54,h55,hz,e1,e2,e3,q1,Ll,im,i1,bx,bxf,bl,bf,List.length_set,List.map_cons,Oi,List.cons_append,read1]
    rfl) ?_
   refine Goes.Zw Bn fits Hh (Zf (Zf Zb (fun _ _ _ _=>Zir Hh)) (fun _ _ _ _=>Qz Hh)) (by
    simp (maxSteps:=9^6) +decide (disch:=first|omega|(simp only[lens]<;>omega)|decide) only [go_sem,q15,Tryz.f15,Zc,Za,simprocAttr,f,hg,hL,hs,h1,h6,h54,h55,hz,e1,e2,e3,q1,Ll,im,i1,bx,bxf,bl,bf,List.length_set,List.map_cons,Oi,List.cons_append,read1]
    rfl) ?_
   refine Goes.Zw Lp fits Hh Zb (by
    simp (maxSteps:=9^6) +decide (disch:=first|omega|(simp only[lens]<;>omega)|decide) only [go_sem,q15,Tryz.f15,Zc,Za,simprocAttr,f,hg,hL,hs,h1,h6,h54,h55,hz,e1,e2,e3,q1,Ll,im,i1,bx,bxf,bl,bf,List.length_set,List.map_cons,Oi,List.cons_append,read1]
    rfl) ?_
   show Goes K Tryz.prog 104 none (.loop (q15 [1,1,1,1,1,1,1,1,1,1,1,0,1,2,2])) _ _ _ _
   rw[←Ou]
   refine (ih (k+1) _ _ _ (by omega) I2 ?_ ?_ ?_ ?_ ?_ ?_ ?_).mono ?_
   ·rw[Zv (by omega),Zv (by omega)]; exact hg
   ·rw[Yk]
   ·rw[Zv (by omega),Zv (by omega)]; exact hs
   ·simp (decide:=true) only [Zi,reduceIte,h1]
   ·simp (decide:=true) only [Zi,reduceIte,h6]
   ·simp (decide:=true) only [Zi,reduceIte,h54]
   ·simp (decide:=true) only [Zi,reduceIte]<;>rfl
   rintro x ds' ts' h' ⟨r1,r2,r3,r4,r5,r6⟩
   refine⟨r1,r2,r3,r4,fun m hm=>(r5 m hm).trans (by rw[Zv hm,Zv hm]),fun s hs=>(r6 s hs).trans ?_⟩
   simp (decide:=true) only [Uj hs]
  ·rw[if_neg k0] at I2
   have bl:=Zio 0 c
   have bf:=Zfc 0 c
   refine Goes.Lm Ou (Goes.loop ?_)
   refine Goes.Zq Ew ?_
   refine Goes.Zw Dv fits Hh Zb (by
    simp (maxSteps:=9^6) +decide (disch:=first|omega|(simp only[lens]<;>omega)|decide) only [go_sem,q15,Tryz.f15,Zc,Za,simprocAttr,f,hg,hL,hs,h1,h6,h54,h55,hz,e1,e2,e3,q1,Ll,im,i1,bx,bxf,bl,bf,List.length_set,List.map_cons,Oi,List.cons_append,read1]
    rfl) ?_
   refine Goes.Zq D5 ?_
   refine Goes.Ob Bv (by simp (maxSteps:=9^6) +decide (disch:=first|omega|(simp only[lens]<;>omega)|decide) only [go_sem,Zc,Za,simprocAttr,f,hg,hL,hs,h1,h6,h54,h55,hz,e1,e2,e3,q1,Ll,im,i1,bx,bxf,bl,bf,List.length_set,List.map_cons,Oi,List.cons_append,read1]<;>rfl) (by first|rfl|assumption|exact decide_eq_true (by omega)|(simp; omega)) ?_
   refine Goes.Jc Le ?_
   refine Goes.Zq L9 ?_
   refine Goes.Ul F8 (Goes.block ?_)
   refine Goes.Zq Fq ?_
   refine Goes.Zw E8 fits Hh Zb (by
    simp (maxSteps:=9^6) +decide (disch:=first|omega|(simp only[lens]<;>omega)|decide) only [go_sem,q15,Tryz.f15,Zc,Za,simprocAttr,f,hg,hL,hs,h1,h6,h54,h55,hz,e1,e2,e3,q1,Ll,im,i1,bx,bxf,bl,bf,List.length_set,List.map_cons,Oi,List.cons_append,read1]
    rfl) ?_
   refine Goes.Zq Ex ?_
   refine Goes.Zw Es fits Hh (Zf Zb (fun _ _ _ _=>X0 Hh)) (by
    simp (maxSteps:=9^6) +decide (disch:=first|omega|(simp only[lens]<;>omega)|decide) only [go_sem,q15,Tryz.f15,Zc,Za,simprocAttr,f,hg,hL,hs,h1,h6,h54,h55,hz,e1,e2,e3,q1,Ll,im,i1,bx,bxf,bl,bf,List.length_set,List.map_cons,Oi,List.cons_append,read1]
    rfl) ?_
   refine Goes.Zq Er ?_
   refine Goes.Zw D7 fits Hh (Zf (Zf Zb (fun _ _ _ _=>Zir Hh)) (fun _ _ _ _=>Qz Hh)) (by
    simp (maxSteps:=9^6) +decide (disch:=first|omega|(simp only[lens]<;>omega)|decide) only [go_sem,q15,Tryz.f15,Zc,Za,simprocAttr,f,hg,hL,hs,h1,h6,h54,h55,hz,e1,e2,e3,q1,Ll,im,i1,bx,bxf,bl,bf,List.length_set,List.map_cons,Oi,List.cons_append,read1]
    rfl) ?_
   refine Goes.Zq Dz ?_
   refine Goes.Zw Da fits Hh Zb (by
    simp (maxSteps:=9^6) +decide (disch:=first|omega|(simp only[lens]<;>omega)|decide) only [go_sem,q15,Tryz.f15,Zc,Za,simprocAttr,f,hg,hL,hs,h1,h6,h54,h55,hz,e1,e2,e3,q1,Ll,im,i1,bx,bxf,bl,bf,List.length_set,List.map_cons,Oi,List.cons_append,read1]
    rfl) ?_
   refine Goes.Zq Dj ?_
   refine Goes.Zq Bi ?_
   refine Goes.Zw G6 fits Hh Zb (by
    simp (maxSteps:=9^6) +decide (disch:=first|omega|(simp only[lens]<;>omega)|decide) only [go_sem,q15,Tryz.f15,Zc,Za,simprocAttr,f,hg,hL,hs,h1,h6,h54,h55,hz,e1,e2,e3,q1,Ll,im,i1,bx,bxf,bl,bf,List.length_set,List.map_cons,Oi,List.cons_append,read1]
    rfl) ?_
   refine Goes.Yy Gx (by simp (maxSteps:=9^6) +decide (disch:=first|omega|(simp only[lens]<;>omega)|decide) only [go_sem,Zc,Za,simprocAttr,f,hg,hL,hs,h1,h6,h54,h55,hz,e1,e2,e3,q1,Ll,im,i1,bx,bxf,bl,bf,List.length_set,List.map_cons,Oi,List.cons_append,read1]<;>rfl) (by first|rfl|assumption|exact decide_eq_false (by omega)|(simp; omega)) ?_
   refine Goes.Jc Mj ?_
   refine Goes.Zw Bn fits Hh (Zf (Zf Zb (fun _ _ _ _=>Zir Hh)) (fun _ _ _ _=>Qz Hh)) (by
    simp (maxSteps:=9^6) +decide (disch:=first|omega|(simp only[lens]<;>omega)|decide) only [go_sem,q15,Tryz.f15,Zc,Za,simprocAttr,f,hg,hL,hs,h1,h6,h54,h55,hz,e1,e2,e3,q1,Ll,im,i1,bx,bxf,bl,bf,List.length_set,List.map_cons,Oi,List.cons_append,read1]
    rfl) ?_
   refine Goes.Zw Lp fits Hh Zb (by
    simp (maxSteps:=9^6) +decide (disch:=first|omega|(simp only[lens]<;>omega)|decide) only [go_sem,q15,Tryz.f15,Zc,Za,simprocAttr,f,hg,hL,hs,h1,h6,h54,h55,hz,e1,e2,e3,q1,Ll,im,i1,bx,bxf,bl,bf,List.length_set,List.map_cons,Oi,List.cons_append,read1]
    rfl) ?_
   show Goes K Tryz.prog 104 none (.loop (q15 [1,1,1,1,1,1,1,1,1,1,1,0,1,2,2])) _ _ _ _
   rw[←Ou]
   refine (ih (k+1) _ _ _ (by omega) I2 ?_ ?_ ?_ ?_ ?_ ?_ ?_).mono ?_
   ·rw[Zv (by omega),Zv (by omega)]; exact hg
   ·rw[Yk]
   ·rw[Zv (by omega),Zv (by omega)]; exact hs
   ·simp (decide:=true) only [Zi,reduceIte,h1]
   ·simp (decide:=true) only [Zi,reduceIte,h6]
   ·simp (decide:=true) only [Zi,reduceIte,h54]
   ·simp (decide:=true) only [Zi,reduceIte]<;>rfl
   rintro x ds' ts' h' ⟨r1,r2,r3,r4,r5,r6⟩
   refine⟨r1,r2,r3,r4,fun m hm=>(r5 m hm).trans (by rw[Zv hm,Zv hm]),fun s hs=>(r6 s hs).trans ?_⟩
   simp (decide:=true) only [Uj hs]
end
end Go.Proofs.YtmdibcklpmeleaaGreatDoor
set_option maxRecDepth 100000
set_option maxHeartbeats 8000000
namespace Go.Proofs.YtmdibcklpmeleaaGreatDoor
open Go.Ev
theorem Img.start {a b c d:Nat} (S H:List C) (sl:S.length=256) (sf:S.all C.flat=true) (hl:H.length=256) (hf:H.all C.flat=true) (hd:40≤d) (hb:16≤b):Img a b c d 0 ((((List.replicate (2+d+a * b) zB).set 0 S).set 1 (Zg6 a b c)).set 2 H):=by
 refine⟨by simp only[List.length_set,List.length_replicate],Ms (Ms (Ms (Zzn _) sl sf _) (Zo0 a b c) (Zl9 a b c) _) hl hf _,?_,fun j hj=>by omega,fun j r hj hr=>?_⟩
 ·rw[List.getElem?_set_ne (by omega),List.getElem?_set_self (by simp only[List.length_set,List.length_replicate]; omega)]
 ·have:=Bl (b:=b) hj
  rw[List.getElem?_set_ne (by omega),List.getElem?_set_ne (by omega),List.getElem?_set_ne (by omega),List.getElem?_replicate,if_pos (by omega)]
section
variable (Hh:Hearts K Tryz.prog)
include Hh
theorem Yfs {a b c d:Nat} (f:U7 a b c d=true) {h:Go.Ev.H} (hst:h.get 0=some Bz) (l0:0<h.next):∃ L,Image a b c d L∧Zd K Tryz.prog 15 [.g [.int .i64 (a:Int),.int .i64 (b:Int),.int .i64 (c:Int),.int .i64 (d:Int)]] h (.tup [.c (.slice h.next 0 (2+d+a * b) 256),.c (.int .i64 0)]) (h.new (.row 256 L false)):=by
 obtain⟨g1,g2,g3,g4,g5,g6,g7,g8,g9,g10,g11⟩:=Yn f
 obtain⟨N,hN⟩:∃ N,2+d+a * b=N:=⟨_,rfl⟩
 have ha:=Bl (b:=b) (show 0<a by omega)
 have hX:pgL (Zas (Zru (Zag a b c) 0 Zfh))=Zg6 a b c:=rfl
 have xl:=Zo0 a b c
 have xf:=Zl9 a b c
 have fl:=Zvq (b:=b) (c:=c) g1
 have fm:=Zwf (a:=a) (b:=b) (c:=c) (by omega)
 obtain⟨S,hS⟩:∃ S,pgL (Z8l a b c d)=S:=⟨_,rfl⟩
 have sl:S.length=256:=by rw[←hS,Et,Z4a]
 have sf:S.all C.flat=true:=by rw[←hS]; exact Nz _
 obtain⟨Hd,hH⟩:∃ x,Zz2=x:=⟨_,rfl⟩
 have hl:Hd.length=256:=by rw[←hH]; exact Z0r
 have hf:Hd.all C.flat=true:=by rw[←hH]; exact Zxy
 have I0:=Img.start (a:=a) (b:=b) (c:=c) (d:=d) S Hd sl sf hl hf g8 g3
 have fz:List.replicate 256 (C.int .u8 0)=zB:=rfl
 have zl:zB.length=256:=by kernel_rfl
 have zf:=Zy8
 have im0:imB (List.replicate N zB)=true:=Zzn _
 have im1:imB ((List.replicate N zB).set 0 S)=true:=Ms im0 sl sf _
 have im2:imB (((List.replicate N zB).set 0 S).set 1 (Zg6 a b c))=true:=Ms im1 xl xf _
 have rl:=Znz
 have rf:=Zkx
 rw[hN] at I0 ⊢
 obtain⟨v,h',cc,n',L,rfl,I,n1,n2,n3,hk⟩:∃ v h',Zd K Tryz.prog 15 [.g [.int .i64 (a:Int),.int .i64 (b:Int),.int .i64 (c:Int),.int .i64 (d:Int)]] h v h'∧∃ n' L,v=.tup [.c (.slice n' 0 N 256),.c (.int .i64 0)]∧Image a b c d L∧h.next≤n'∧n'<h'.next∧h'.get n'=some (.row 256 L false)∧∀ m,m<h.next→h'.get m=h.get m:=by
  refine Zd.Ya fits Hh (by kernel_rfl) (by kernel_rfl) (by kernel_rfl) (show Tryz.f15.body=some (q15 []) by kernel_rfl) rfl ?_
  show Goes K Tryz.prog 104 none _ _ _ _ _
  refine Goes.Zq Yit ?_
  refine Goes.Zw q15_0 fits Hh Zb (by
   simp (maxSteps:=9^6) +decide (disch:=first|omega|(simp only[lens]<;>omega)|decide) only [go_sem,q15,Tryz.f15,Za,simprocAttr,f,hst,hN,hX,xl,xf,fl,fm,hS,sl,sf,hH,hl,hf,fz,zl,zf,im0,im1,im2,rl,rf,rd4,List.length_set,List.length_replicate,List.map_cons,Oi,List.cons_append,read1,Zn,Yr,Yb]
   rfl) ?_
  refine Goes.Zq q15_1 ?_
  refine Goes.Zq Ydn ?_
  refine Goes.Zw Ybq fits Hh (Zf Zb (fun _ _ _ _=>O4 Hh)) (by
   simp (maxSteps:=9^6) +decide (disch:=first|omega|(simp only[lens]<;>omega)|decide) only [go_sem,q15,Tryz.f15,Za,simprocAttr,f,hst,hN,hX,xl,xf,fl,fm,hS,sl,sf,hH,hl,hf,fz,zl,zf,im0,im1,im2,rl,rf,rd4,List.length_set,List.length_replicate,List.map_cons,Oi,List.cons_append,read1,Zn,Yr,Yb]
   rfl) ?_
  refine Goes.Yy Ybn (by simp (maxSteps:=9^6) +decide (disch:=first|omega|(simp only[lens]<;>omega)|decide) only [go_sem,Za,simprocAttr,f,hst,hN,hX,xl,xf,fl,fm,hS,sl,sf,hH,hl,hf,fz,zl,zf,im0,im1,im2,rl,rf,rd4,List.length_set,List.length_replicate,List.map_cons,Oi,List.cons_append,read1,Zn,Yr,Yb]<;>rfl) (by first|rfl|assumption|exact decide_eq_false (by omega)|(simp; omega)) ?_
  refine Goes.Jc Z8k ?_
  refine Goes.Zq Yfy ?_
  refine Goes.Zw Ycd fits Hh (Zf Zb (fun _ _ _ _=>D8 Hh)) (by
   simp (maxSteps:=9^6) +decide (disch:=first|omega|(simp only[lens]<;>omega)|decide) only [go_sem,q15,Tryz.f15,Za,simprocAttr,f,hst,hN,hX,xl,xf,fl,fm,hS,sl,sf,hH,hl,hf,fz,zl,zf,im0,im1,im2,rl,rf,rd4,List.length_set,List.length_replicate,List.map_cons,Oi,List.cons_append,read1,Zn,Yr,Yb]
   rfl) ?_
  refine Goes.Zq Yau ?_
  refine Goes.Zw Z9c fits Hh Zb (by
   simp (maxSteps:=9^6) +decide (disch:=first|omega|(simp only[lens]<;>omega)|decide) only [go_sem,q15,Tryz.f15,Za,simprocAttr,f,hst,hN,hX,xl,xf,fl,fm,hS,sl,sf,hH,hl,hf,fz,zl,zf,im0,im1,im2,rl,rf,rd4,List.length_set,List.length_replicate,List.map_cons,Oi,List.cons_append,read1,Zn,Yr,Yb]
   rfl) ?_
  refine Goes.Zq Z81 ?_
  refine Goes.Zw Z3z fits Hh Zb (by
   simp (maxSteps:=9^6) +decide (disch:=first|omega|(simp only[lens]<;>omega)|decide) only [go_sem,q15,Tryz.f15,Za,simprocAttr,f,hst,hN,hX,xl,xf,fl,fm,hS,sl,sf,hH,hl,hf,fz,zl,zf,im0,im1,im2,rl,rf,rd4,List.length_set,List.length_replicate,List.map_cons,Oi,List.cons_append,read1,Zn,Yr,Yb]
   rfl) ?_
  refine Goes.Zq Z2v ?_
  refine Goes.Zw Zwq fits Hh (Zf Zb (fun _ _ _ _=>Z9n Hh)) (by
   simp (maxSteps:=9^6) +decide (disch:=first|omega|(simp only[lens]<;>omega)|decide) only [go_sem,q15,Tryz.f15,Za,simprocAttr,f,hst,hN,hX,xl,xf,fl,fm,hS,sl,sf,hH,hl,hf,fz,zl,zf,im0,im1,im2,rl,rf,rd4,List.length_set,List.length_replicate,List.map_cons,Oi,List.cons_append,read1,Zn,Yr,Yb]
   rfl) ?_
  refine Goes.Zq Zw7 ?_
  refine Goes.Zw Zt1 fits Hh (Zf Zb (fun _ _ _ _=>Qz Hh)) (by
   simp (maxSteps:=9^6) +decide (disch:=first|omega|(simp only[lens]<;>omega)|decide) only [go_sem,q15,Tryz.f15,Za,simprocAttr,f,hst,hN,hX,xl,xf,fl,fm,hS,sl,sf,hH,hl,hf,fz,zl,zf,im0,im1,im2,rl,rf,rd4,List.length_set,List.length_replicate,List.map_cons,Oi,List.cons_append,read1,Zn,Yr,Yb]
   rfl) ?_
  refine Goes.Zq Zta ?_
  refine Goes.Zqr Zp7 fits Hh (Zf (Zf Zb (fun _ _ _ _=>Z1p Hh)) (fun _ _ _ _=>Z9p Hh)) (by kernel_rfl) (by
   simp (maxSteps:=9^6) +decide (disch:=first|omega|(simp only[lens]<;>omega)|decide) only [go_sem,q15,Tryz.f15,Za,simprocAttr,U2,Je,Ju,Ux,Y9,Uv,Jp,Yw,Jt,Uy,Gg,Jy,Yq,Y1,Yu,Yv,J2,Jb,Jf,Yx,Y8,Jz,Bh,O8,Gu,Rl,R8,Ot,Oj,Uh,G7,Oq,Oc,Uw,Jd,Uo,looks,En,Op.operands,Call.operands,kd,Ox,List.filterMap_cons,List.filterMap_nil,List.append_nil,List.nil_append,List.cons_append,Jk,stable,J5,Oa,Uu,waits,Ja,List.all_cons,List.all_nil,List.any_cons,List.any_nil,Region.binds,Bool.or_true,Bool.true_or,Bool.and_true,Bool.true_and,Bool.or_false,Bool.false_or,Bool.and_self,Bool.or_self,Jq,Nat.le_refl,Nat.le_add_right,List.map_cons,Array.toList_append,f,hst,hN,hX,xl,xf,fl,fm,hS,sl,sf,hH,hl,hf,fz,zl,zf,im0,im1,im2,rl,rf,rd4,List.length_set,List.length_replicate,List.map_cons,Oi,List.cons_append,read1,Zn,Yr,Yb]
   rfl) ?_
  refine Goes.Zq Zpp ?_
  refine Goes.Zw Zm1 fits Hh (Zf Zb (fun _ _ _ _=>Qz Hh)) (by
   simp (maxSteps:=9^6) +decide (disch:=first|omega|(simp only[lens]<;>omega)|decide) only [go_sem,q15,Tryz.f15,Za,simprocAttr,f,hst,hN,hX,xl,xf,fl,fm,hS,sl,sf,hH,hl,hf,fz,zl,zf,im0,im1,im2,rl,rf,rd4,List.length_set,List.length_replicate,List.map_cons,Oi,List.cons_append,read1,Zn,Yr,Yb]
   rfl) ?_
  refine Goes.Zq Znb ?_
  refine Goes.Zw Zl1 fits Hh (Zf Zb (fun _ _ _ _=>Zya Hh)) (by
   simp (maxSteps:=9^6) +decide (disch:=first|omega|(simp only[lens]<;>omega)|decide) only [go_sem,q15,Tryz.f15,Za,simprocAttr,f,hst,hN,hX,xl,xf,fl,fm,hS,sl,sf,hH,hl,hf,fz,zl,zf,im0,im1,im2,rl,rf,rd4,List.length_set,List.length_replicate,List.map_cons,Oi,List.cons_append,read1,Zn,Yr,Yb]
   rfl) ?_
  refine Goes.Zq Zlr ?_
  refine Goes.Zw Zh8 fits Hh (Zf Zb (fun _ _ _ _=>Qz Hh)) (by
   simp (maxSteps:=9^6) +decide (disch:=first|omega|(simp only[lens]<;>omega)|decide) only [go_sem,q15,Tryz.f15,Za,simprocAttr,f,hst,hN,hX,xl,xf,fl,fm,hS,sl,sf,hH,hl,hf,fz,zl,zf,im0,im1,im2,rl,rf,rd4,List.length_set,List.length_replicate,List.map_cons,Oi,List.cons_append,read1,Zn,Yr,Yb]
   rfl) ?_
  refine Goes.Zq Zie ?_
  refine Goes.Zq Zf5 ?_
  refine Goes.Zw Zff fits Hh Zb (by
   simp (maxSteps:=9^6) +decide (disch:=first|omega|(simp only[lens]<;>omega)|decide) only [go_sem,q15,Tryz.f15,Za,simprocAttr,f,hst,hN,hX,xl,xf,fl,fm,hS,sl,sf,hH,hl,hf,fz,zl,zf,im0,im1,im2,rl,rf,rd4,List.length_set,List.length_replicate,List.map_cons,Oi,List.cons_append,read1,Zn,Yr,Yb]
   rfl) ?_
  refine Goes.Ul Zee (Goes.block ?_)
  refine (Yey Hh f hN a 0 _ _ _ (n:=h.next) (by omega) I0 ?_ ?_ ?_ ?_ ?_ ?_ ?_).mono ?_
  ·simp (maxSteps:=9^6) +decide (disch:=first|omega|(simp only[lens]<;>omega)|decide) only [go_sem,Za,simprocAttr]<;>rfl
  ·simp (maxSteps:=9^6) +decide (disch:=first|omega|(simp only[lens]<;>omega)|decide) only [go_sem,Za,simprocAttr]<;>rfl
  ·simp (maxSteps:=9^6) +decide (disch:=first|omega|(simp only[lens]<;>omega)|decide) only [go_sem,Za,simprocAttr]<;>rfl
  ·simp (decide:=true) only [Zi,reduceIte]
  ·simp (decide:=true) only [Zi,reduceIte]
  ·simp (decide:=true) only [Zi,reduceIte]
  ·simp (decide:=true) only [Zi,reduceIte]<;>rfl
  rintro x ds' ts' h' ⟨rfl,rfl,e3,⟨L,I1,hL⟩,kp,tk⟩
  simp only[H.Zg,H.Ze] at e3
  have f1:Zp ts' 1=.w (.c (.ptr h.next 0)):=(tk 1 (by decide)).trans (by simp (decide:=true) only [Zi,reduceIte])
  have f3:Zp ts' 3=.w (.c (.int .i64 0)):=(tk 3 (by decide)).trans (by simp (decide:=true) only [Zi,reduceIte]<;>rfl)
  have f4:Zp ts' 4=.w (.c (.ptr (h.next+1+1) 0)):=(tk 4 (by decide)).trans (by simp (decide:=true) only [Zi,reduceIte])
  have f5:Zp ts' 5=.w (.c (.ptr (h.next+1+1+1) 0)):=(tk 5 (by decide)).trans (by simp (decide:=true) only [Zi,reduceIte])
  have f6:Zp ts' 6=.w (.c (.fn 50 [] [some (h.next+1+1+1,0),some (h.next+1+1,0)])):=(tk 6 (by decide)).trans (by simp (decide:=true) only [Zi,reduceIte])
  have f7:Zp ts' 7=.w (.c (.ptr (h.next+1+1+1+1) 0)):=(tk 7 (by decide)).trans (by simp (decide:=true) only [Zi,reduceIte])
  have k0:=(kp h.next (by omega)).trans (show _=some (.row 4 [[.int .i64 (a:Int),.int .i64 (b:Int),.int .i64 (c:Int),.int .i64 (d:Int)]] false) by simp (maxSteps:=9^6) +decide (disch:=first|omega|(simp only[lens]<;>omega)|decide) only [go_sem,Za,simprocAttr]<;>rfl)
  have k2:=(kp (h.next+1+1) (by omega)).trans (show _=some (.row 1 [[.slice (h.next+1) 0 N 256]] false) by simp (maxSteps:=9^6) +decide (disch:=first|omega|(simp only[lens]<;>omega)|decide) only [go_sem,Za,simprocAttr]<;>rfl)
  have k3:=(kp (h.next+1+1+1) (by omega)).trans (show _=some (.row 1 [[.int .i64 0]] false) by simp (maxSteps:=9^6) +decide (disch:=first|omega|(simp only[lens]<;>omega)|decide) only [go_sem,Za,simprocAttr]<;>rfl)
  have k4:=(kp (h.next+1+1+1+1) (by omega)).trans (show _=some (.row 256 [Hd] false) by simp (maxSteps:=9^6) +decide (disch:=first|omega|(simp only[lens]<;>omega)|decide) only [go_sem,Za,simprocAttr]<;>rfl)
  have kk:∀ m,m<h.next→h'.get m=h.get m:=fun m hm=>(kp m (by omega)).trans (by (first|(simp (discharger:=omega) only [H.get_put,H.Zh,H.Zk,H.Ze,H.Zg,H.Zj,if_neg]; done)|(simp only[H.get_put,H.Zh,H.Zk,H.Ze,H.Zg,H.Zj]; (repeat' split)<;>first|rfl|(exfalso; omega)|omega)))
  clear kp tk
  have i1:=I1.im
  have Ll:L.length=N:=by rw[I1.len,hN]
  have ac:1≤a * c:=Nat.mul_pos (by omega) (by omega)
  have t1:(1:Int).toNat - 1=0:=rfl
  have lst:=I1.last g3 g1
  obtain⟨z,hz⟩:∃ z,2+d+2=z:=⟨_,rfl⟩
  rw[hz] at lst
  have zN:z<N:=by omega
  refine Goes.Zq Zf3 ?_
  refine Goes.Zw Zd5 fits Hh (Zf Zb (fun _ _ _ _=>Ff Hh)) (by
   simp (maxSteps:=9^6) +decide (disch:=first|omega|(simp only[lens]<;>omega)|decide) only [go_sem,q15,Tryz.f15,Za,simprocAttr,f,f1,f3,f4,f5,f6,f7,k0,k2,k3,k4,hL,i1,Ll,t1,hz,fz,zl,zf,hl,rl,rf,rd4,Nat.zero_div,Nat.zero_mul,Nat.zero_mod,Nat.add_zero,Nat.sub_self,List.map_cons,Oi,List.cons_append,read1]
   rfl) ?_
  refine Goes.Zq Zfb ?_
  refine Goes.Zw Zc9 fits Hh Zb (by
   simp (maxSteps:=9^6) +decide (disch:=first|omega|(simp only[lens]<;>omega)|decide) only [go_sem,q15,Tryz.f15,Za,simprocAttr,f,f1,f3,f4,f5,f6,f7,k0,k2,k3,k4,hL,i1,Ll,t1,hz,fz,zl,zf,hl,rl,rf,rd4,Nat.zero_div,Nat.zero_mul,Nat.zero_mod,Nat.add_zero,Nat.sub_self,List.map_cons,Oi,List.cons_append,read1]
   rfl) ?_
  refine Goes.Zq Zcj ?_
  refine Goes.Zw Zbo fits Hh (Zf Zb (fun _ _ _ _=>Z37 Hh)) (by
   simp (maxSteps:=9^6) +decide (disch:=first|omega|(simp only[lens]<;>omega)|decide) only [go_sem,q15,Tryz.f15,Za,simprocAttr,f,f1,f3,f4,f5,f6,f7,k0,k2,k3,k4,hL,i1,Ll,t1,hz,fz,zl,zf,hl,rl,rf,rd4,Nat.zero_div,Nat.zero_mul,Nat.zero_mod,Nat.add_zero,Nat.sub_self,List.map_cons,Oi,List.cons_append,read1]
   rfl) ?_
  refine Goes.Zq Zbp ?_
  refine Goes.Zw Q7 fits Hh (Zf Zb (fun _ _ _ _=>Qz Hh)) (by
   simp (maxSteps:=9^6) +decide (disch:=first|omega|(simp only[lens]<;>omega)|decide) only [go_sem,q15,Tryz.f15,Za,simprocAttr,f,f1,f3,f4,f5,f6,f7,k0,k2,k3,k4,hL,i1,Ll,t1,hz,fz,zl,zf,hl,rl,rf,rd4,Nat.zero_div,Nat.zero_mul,Nat.zero_mod,Nat.add_zero,Nat.sub_self,List.map_cons,Oi,List.cons_append,read1]
   rfl) ?_
  refine Goes.Zq Qp ?_
  refine Goes.Zq Qh ?_
  refine Goes.Zw Wt fits Hh Zb (by
   simp (maxSteps:=9^6) +decide (disch:=first|omega|(simp only[lens]<;>omega)|decide) only [go_sem,q15,Tryz.f15,Za,simprocAttr,f,f1,f3,f4,f5,f6,f7,k0,k2,k3,k4,hL,i1,Ll,t1,hz,fz,zl,zf,hl,rl,rf,rd4,Nat.zero_div,Nat.zero_mul,Nat.zero_mod,Nat.add_zero,Nat.sub_self,List.map_cons,Oi,List.cons_append,read1]
   rfl) ?_
  refine Goes.Yy Xv (by simp (maxSteps:=9^6) +decide (disch:=first|omega|(simp only[lens]<;>omega)|decide) only [go_sem,Za,simprocAttr,f,f1,f3,f4,f5,f6,f7,k0,k2,k3,k4,hL,i1,Ll,t1,hz,fz,zl,zf,hl,rl,rf,rd4,Nat.zero_div,Nat.zero_mul,Nat.zero_mod,Nat.add_zero,Nat.sub_self,List.map_cons,Oi,List.cons_append,read1]<;>rfl) (by first|rfl|assumption|exact decide_eq_false (by omega)|(simp; omega)) ?_
  refine Goes.Jc Xc ?_
  refine Goes.Zq Qk ?_
  refine Goes.Zw Wl fits Hh Zb (by
   simp (maxSteps:=9^6) +decide (disch:=first|omega|(simp only[lens]<;>omega)|decide) only [go_sem,q15,Tryz.f15,Za,simprocAttr,f,f1,f3,f4,f5,f6,f7,k0,k2,k3,k4,hL,i1,Ll,t1,hz,fz,zl,zf,hl,rl,rf,rd4,Nat.zero_div,Nat.zero_mul,Nat.zero_mod,Nat.add_zero,Nat.sub_self,List.map_cons,Oi,List.cons_append,read1]
   rfl) ?_
  refine Goes.Gl Xm ?_
  refine⟨_,_,(by simp (maxSteps:=9^6) +decide (disch:=first|omega|(simp only[lens]<;>omega)|decide) only [go_sem,Za,simprocAttr]<;>rfl),_,_,rfl,lst,by omega,?_,?_,fun m hm=>?_⟩
  ·simp only[H.Zg,H.Ze]<;>omega
  ·simp (discharger:=omega) only [H.get_put,if_neg,if_pos,if_true]
  ·refine Eq.trans ?_ (kk m hm)
   (first|(simp (discharger:=omega) only [H.get_put,H.Zh,H.Zk,H.Ze,H.Zg,H.Zj,if_neg]; done)|(simp only[H.get_put,H.Zh,H.Zk,H.Ze,H.Zg,H.Zj]; (repeat' split)<;>first|rfl|(exfalso; omega)|omega))
 rw[show N=N from rfl]
 exact⟨L,I,Zd.row cc n1 n3 rfl (Zmm I.im) n2 hk⟩
end
end Go.Proofs.YtmdibcklpmeleaaGreatDoor
