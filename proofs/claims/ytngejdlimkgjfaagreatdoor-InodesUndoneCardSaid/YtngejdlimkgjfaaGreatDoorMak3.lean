/- Calls of inode and jblock whose arguments are known: the kernel runs them. -/
import Derived.Test.YtngejdlimkgjfaaGreatDoorX24
import Derived.Test.YtngejdlimkgjfaaGreatDoorNew2
import Derived.Test.YtngejdlimkgjfaaGreatDoorEvC
import Derived.KernelRfl
import Derived.Test.YtngejdlimkgjfaaGreatDoorSup5
import Derived.Test.YtngejdlimkgjfaaGreatDoorMkd
set_option linter.unusedSimpArgs false
set_option linter.unusedVariables false
set_option linter.unusedSectionVars false
set_option maxRecDepth 100000
namespace Go.Proofs.YtngejdlimkgjfaaGreatDoor
open Go.Ev
def byt8 (l:List Nat):List C:=l.map fun (n:Nat)=>.int .u8 (n:Int)
def Rv:List C:=byt8 [2,0,1,0,1,0,0,0]++List.replicate 248 (.int .u8 0)
def Z53:List C:=byt8 [2,0,1,0,1,0,0,0]++List.replicate 56 (.int .u8 0)++byt8 [2,0,1,0,1,0,0,0]++List.replicate 184 (.int .u8 0)
def Z5k (k l g s p0 p1 p2 p3 p4 p5 p6 p7 p8 p9 p10 nx:Int):List C:=[.int .u8 k,.int .i64 l,.int .u32 g,.int .i64 s,.int .u32 p0,.int .u32 p1,.int .u32 p2,.int .u32 p3,.int .u32 p4,.int .u32 p5,.int .u32 p6,.int .u32 p7,.int .u32 p8,.int .u32 p9,.int .u32 p10,.int .u32 nx]
def isT:Option Bool→Bool
 | some b=>b
 | none=>false
theorem Znb {o:Option Bool} (h:isT o=true):o=some true:=by
 cases o with
 | none=>cases h
 | some b=>cases b with
  | false=>cases h
  | true=>rfl
noncomputable def Zsm:List C:=match Z03 (evX K x3 3000 (.call 57 [.g [.int .u32 1,.int .i64 0]] ⟨.nil,1⟩)) with
 | some (.tup [.g x,_])=>x
 | _=>[]
noncomputable def Zkv:Kn1:=fun args h=>match args with
 | [.g [.int .u32 s,.int .i64 z]]=>Y9 (decide (s=1)&&decide (z=0)) (some (.tup [.g Zsm,.c (.int .i64 0)],h))
 | _=>none
noncomputable def Z33:Kn1:=fun args h=>match args with
 | [.g x,.c (.int .i64 a)]=>bif isT (Yo x zB)&&decide (a=0) then some (.tup [.g (Z5k 0 0 0 0 0 0 0 0 0 0 0 0 0 0 0 0),.c (.int .i64 0)],h) else bif isT (Yo x Rv)&&decide (a=64) then some (.tup [.g (Z5k 0 0 0 0 0 0 0 0 0 0 0 0 0 0 0 0),.c (.int .i64 0)],h) else none
 | _=>none
noncomputable def Zrl:Kn1:=fun args h=>match args with
 | [.c (.ptr p 0),.c (.int .i64 a),.g [.int .u8 k,.int .i64 l,.int .u32 g,.int .i64 s,.int .u32 p0,.int .u32 p1,.int .u32 p2,.int .u32 p3,.int .u32 p4,.int .u32 p5,.int .u32 p6,.int .u32 p7,.int .u32 p8,.int .u32 p9,.int .u32 p10,.int .u32 nx]]=>Y9 (decide (k=2)&&decide (l=1)&&decide (g=1)&&decide (s=0)&&decide (p0=0)&&decide (p1=0)&&decide (p2=0)&&decide (p3=0)&&decide (p4=0)&&decide (p5=0)&&decide (p6=0)&&decide (p7=0)&&decide (p8=0)&&decide (p9=0)&&decide (p10=0)&&decide (nx=0)) (match h.get p with
  | some (.row s [x] ro)=>Y9 (Nat.beq s 256&&!ro) (bif isT (Yo x zB)&&decide (a=0) then some (.w (.c (.int .i64 0)),h.put p (.row 256 [Rv] false)) else bif isT (Yo x Rv)&&decide (a=64) then some (.w (.c (.int .i64 0)),h.put p (.row 256 [Z53] false)) else none)
  | _=>none)
 | _=>none
theorem Z51:Yo zB zB=some true:=by kernel_rfl
theorem Z52:Yo Rv Rv=some true:=by kernel_rfl
theorem Z58:Yo Rv zB=some false:=by kernel_rfl
theorem Z5y:isT (some true)=true:=rfl
theorem Z5n:isT (some false)=false:=rfl
theorem Zvd:Zsm.length=256:=by kernel_rfl
theorem Zrq:Zsm.all C.flat=true:=by kernel_rfl
theorem Zje:Rv.length=256:=by kernel_rfl
theorem Zgw:Rv.all C.flat=true:=by kernel_rfl
attribute [go_sem] Zkv Z33 Zrl Z51 Z52 Z58 Z5y Z5n
section
variable (Hh:Hearts K Tryz.prog)
include Hh
theorem Zhf {args:List W} {h h':Go.Ev.H} {v:V} (e:Zkv args h=some (v,h')):Ze K Tryz.prog 57 args h v h':=by
 unfold Zkv at e
 split at e
 ·obtain⟨b,e⟩:=Zv.1 e
  cases e
  simp only[Bool.and_eq_true,decide_eq_true_eq] at b
  obtain⟨rfl,rfl⟩:=b
  exact Ze.closed fits Hh (Ztg Hh) gl (n:=3000) (by kernel_rfl) rfl (by kernel_rfl) h
 ·cases e
theorem Zvj {args:List W} {h h':Go.Ev.H} {v:V} (e:Zrl args h=some (v,h')):Ze K Tryz.prog 60 args h v h':=by
 unfold Zrl at e
 split at e
 ·rename_i p a k l g s p0 p1 p2 p3 p4 p5 p6 p7 p8 p9 p10 nx
  obtain⟨b,e2⟩:=Zv.1 e
  clear e
  simp only[Bool.and_eq_true,decide_eq_true_eq] at b
  obtain⟨⟨⟨⟨⟨⟨⟨⟨⟨⟨⟨⟨⟨⟨⟨rfl,rfl⟩,rfl⟩,rfl⟩,rfl⟩,rfl⟩,rfl⟩,rfl⟩,rfl⟩,rfl⟩,rfl⟩,rfl⟩,rfl⟩,rfl⟩,rfl⟩,rfl⟩:=b
  split at e2
  ·rename_i s x ro heq
   obtain⟨q,e3⟩:=Zv.1 e2
   clear e2
   rw[Bool.and_eq_true] at q
   obtain⟨q1,q2⟩:=q
   cases b1:(isT (Yo x zB)&&decide (a=0)) with
   | true =>
    rw[b1] at e3
    cases e3
    rw[Bool.and_eq_true] at b1
    obtain rfl:=Nat.eq_of_beq_eq_true q1
    obtain rfl:ro=false:=by simpa using q2
    obtain rfl:=Qg (Znb b1.1)
    obtain rfl:=of_decide_eq_true b1.2
    exact Ze.Zr8 fits Hh (Ztg Hh) gl (n:=4000) (by kernel_rfl) rfl (by kernel_rfl) (by kernel_rfl) rfl h p heq
   | false =>
    rw[b1] at e3
    cases b2:(isT (Yo x Rv)&&decide (a=64)) with
    | true =>
     rw[b2] at e3
     cases e3
     rw[Bool.and_eq_true] at b2
     obtain rfl:=Nat.eq_of_beq_eq_true q1
     obtain rfl:ro=false:=by simpa using q2
     obtain rfl:=Qg (Znb b2.1)
     obtain rfl:=of_decide_eq_true b2.2
     exact Ze.Zr8 fits Hh (Ztg Hh) gl (n:=4000) (by kernel_rfl) rfl (by kernel_rfl) (by kernel_rfl) rfl h p heq
    | false=>rw[b2] at e3; cases e3
  ·cases e2
 ·cases e
end
end Go.Proofs.YtngejdlimkgjfaaGreatDoor
set_option maxRecDepth 100000
set_option maxHeartbeats 4000000
namespace Go.Proofs.YtngejdlimkgjfaaGreatDoor
open Go.Ev
theorem rs62:Tryz.f62.results.toList=[.tmp 2]:=rfl
theorem rs17:Tryz.f17.results.toList=[.tmp 2,.tmp 3]:=rfl
attribute [go_sem] rs62 rs17
def imB (L:List (List C)):Bool:=L.all fun x=>Nat.beq x.length 256&&x.all C.flat
theorem Zfj {L:List (List C)} (h:imB L=true) {x:List C} (hx:x∈L):x.length=256∧x.all C.flat=true:=by
 have:=List.all_eq_true.1 h x hx
 rw[Bool.and_eq_true] at this
 exact⟨Nat.eq_of_beq_eq_true this.1,this.2⟩
theorem Ziq {L:List (List C)} (h:imB L=true):L.all (fun l=>l.all C.flat)=true:=List.all_eq_true.2 fun x hx=>(Zfj h hx).2
theorem Lr {L:List (List C)} (h:imB L=true) {x:List C} (xl:x.length=256) (xf:x.all C.flat=true) (i:Nat):imB (L.set i x)=true:=List.all_eq_true.2 fun y hy=>by
 rcases List.mem_or_eq_of_mem_set hy with h1|rfl
 ·exact List.all_eq_true.1 h y h1
 ·rw[xl,xf]; rfl
theorem Zr9 (n:Nat):imB (List.replicate n zB)=true:=List.all_eq_true.2 fun y hy=>by
 obtain rfl:=(List.mem_replicate.1 hy).2
 kernel_rfl
noncomputable def Zgg:Kn1:=fun args h=>match args with
 | [.c (.slice n 0 len z)]=>match h.get n with
  | some (.row s L _)=>Y9 (Nat.beq s 256&&Nat.beq z 256&&Nat.beq L.length len&&Nat.ble 1 len&&Nat.ble len 2048&&imB L) (some (.w (.c (.slice h.next 0 len 256)),h.new (.row 256 L false)))
  | _=>none
 | _=>none
noncomputable def Zpd:Kn1:=fun args h=>match args with
 | [.c (.slice n 0 len z)]=>match h.get n with
  | some (.row s L _)=>Y9 (Nat.beq s 256&&Nat.beq z 256&&Nat.beq L.length len&&Nat.ble 1 len&&Nat.ble len 2048&&imB L) (some (.tup [.c (.ptr (h.next+1+1) 0),.c (.int .i64 0)],((h.new (.row 256 L false)).new (.row 256 L false)).new (.row 6 [dkL ⟨h.next,h.next+1,len,.snil,0,0⟩] false)))
  | _=>none
 | _=>none
attribute [go_sem] Zgg Zpd
section
variable (Hh:Hearts K Tryz.prog)
include Hh
theorem Zm1 {args:List W} {h h':Go.Ev.H} {v:V} (e:Zgg args h=some (v,h')):Ze K Tryz.prog 62 args h v h':=by
 unfold Zgg at e
 split at e
 ·rename_i n len z
  split at e
  ·rename_i s L ro heq
   obtain⟨q,e⟩:=Zv.1 e
   cases e
   simp only[Bool.and_eq_true] at q
   obtain⟨⟨⟨⟨⟨q1,q2⟩,q3⟩,q4⟩,q5⟩,q6⟩:=q
   obtain rfl:=Nat.eq_of_beq_eq_true q1
   obtain rfl:=Nat.eq_of_beq_eq_true q2
   have q3:=Nat.eq_of_beq_eq_true q3
   have q4:=Nat.le_of_ble_eq_true q4
   have q5:=Nat.le_of_ble_eq_true q5
   have rm:Mf 256 L 0 256 len=some L:=by rw[←q3]; exact Zct 256 L
   refine Ze.tidy ⟨Tryz.f62,Tryz.func62,by kernel_rfl,by decide⟩ fun tidy=>?_
   have l1:=tidy _ _ heq
   obtain⟨v,h',cc,n',rfl,n1,n2,n3,hk⟩:∃ v h',Ze K Tryz.prog 62 [.c (.slice n 0 len 256)] h v h'∧∃ n',v=.w (.c (.slice n' 0 len 256))∧h.next≤n'∧n'<h'.next∧h'.get n'=some (.row 256 L false)∧∀ m,m<h.next→h'.get m=h.get m:=by
    rcases L with _|⟨x0,L⟩
    ·simp only[List.length_nil] at q3; omega
    ·
     refine Ze.Z8 fits Hh (by kernel_rfl) (by kernel_rfl) (by kernel_rfl) (show Tryz.f62.body=some _ from rfl) rfl ?_
     repeat (first|apply Goes.seq|apply Goes.block|apply Goes.loop|apply Goes.skip|apply Goes.exit|apply Goes.ret|((first|apply Goes.Zr|apply Goes.ops2 fits Hh Zc); · simp (maxSteps:=9^6) +decide (disch:=first|omega|(simp only[lens]<;>omega)|decide) only [go_sem,Zf,Za,simprocAttr,heq,rm,q3,List.length_append,Nat.zero_add,Zt,Bz,U5,Ox,Zax,Tu,Za5,Zaw,Yw,Ga,Y7,List.replicate_succ,List.replicate_zero,Nat.zero_mul]<;>rfl))
     exact⟨_,_,(by simp (maxSteps:=9^6) +decide (disch:=first|omega|(simp only[lens]<;>omega)|decide) only [go_sem,Zf,Za,simprocAttr]<;>rfl),_,rfl,(by first|omega|(simp only[H.Zd,H.Zj]<;>omega)),(by first|omega|(simp only[H.Zd,H.Zj]<;>omega)),(by rw[Eo (by rw[H.Zj,H.Zd]; omega)]),fun m hm=>by (first|(simp (discharger:=omega) only [H.get_put,H.Zi,H.Zm,H.Zd,H.Zg,H.Zj,if_neg]; done)|(simp only[H.get_put,H.Zi,H.Zm,H.Zd,H.Zg,H.Zj]; (repeat' split)<;>first|rfl|(exfalso; omega)|omega))⟩
   exact Ze.row1 cc n1 n3 (Ziq q6) n2 hk
  ·cases e
 ·cases e
theorem Zv3 {args:List W} {h h':Go.Ev.H} {v:V} (e:Zpd args h=some (v,h')):Ze K Tryz.prog 17 args h v h':=by
 unfold Zpd at e
 split at e
 ·rename_i n len z
  split at e
  ·rename_i s L ro heq
   obtain⟨q,e⟩:=Zv.1 e
   cases e
   simp only[Bool.and_eq_true] at q
   obtain⟨⟨⟨⟨⟨q1,q2⟩,q3⟩,q4⟩,q5⟩,q6⟩:=q
   obtain rfl:=Nat.eq_of_beq_eq_true q1
   obtain rfl:=Nat.eq_of_beq_eq_true q2
   have q3:=Nat.eq_of_beq_eq_true q3
   have q4:=Nat.le_of_ble_eq_true q4
   have q5:=Nat.le_of_ble_eq_true q5
   refine Ze.tidy ⟨Tryz.f17,Tryz.func17,by kernel_rfl,by decide⟩ fun tidy=>?_
   have l1:=tidy _ _ heq
   refine Ze.goes fits Hh (by kernel_rfl) (by kernel_rfl) (by kernel_rfl) (show Tryz.f17.body=some _ from rfl) rfl ?_
   repeat (first|apply Goes.seq|apply Goes.block|apply Goes.loop|apply Goes.skip|apply Goes.exit|apply Goes.ret|((first|apply Goes.Zr|apply Goes.ops2 fits Hh (Zh (Zh Zc (fun _ _ _ _=>Zw6 Hh)) (fun _ _ _ _=>Zm1 Hh))); · simp (maxSteps:=9^6) +decide (disch:=first|omega|(simp only[lens]<;>omega)|decide) only [go_sem,Zf,Za,simprocAttr,heq,q3,q6,Zt,Y8,Zw]<;>rfl))
   simp (maxSteps:=9^6) +decide (disch:=first|omega|(simp only[lens]<;>omega)|decide) only [go_sem,Zf,Za,simprocAttr]<;>rfl
  ·cases e
 ·cases e
end
end Go.Proofs.YtngejdlimkgjfaaGreatDoor
set_option maxRecDepth 100000
set_option maxHeartbeats 4000000
namespace Go.Proofs.YtngejdlimkgjfaaGreatDoor
open Go.Ev
theorem rs53:Tryz.f53.results.toList=[]:=rfl
attribute [go_sem] rs53
def Rl (a b c:Nat):List C:=pgL (O3 (Ea (G5 a b c) 0 Ou))
def Zc1:C→Bool
 | .int _ _=>true
 | _=>false
def Zqm (L:List (List C)):Bool:=L.all fun x=>x.all Zc1
theorem Sz {L:List (List C)} (h:Zqm L=true) {x:List C} (xi:x.all Zc1=true) (i:Nat):Zqm (L.set i x)=true:=List.all_eq_true.2 fun y hy=>by
 rcases List.mem_or_eq_of_mem_set hy with h1|rfl
 ·exact List.all_eq_true.1 h y h1
 ·exact xi
theorem Zzz (n:Nat):Zqm (List.replicate n zB)=true:=List.all_eq_true.2 fun y hy=>by
 obtain rfl:=(List.mem_replicate.1 hy).2
 kernel_rfl
theorem Zql:∀ ns:List Nat,(pgL ns).all Zc1=true
 | []=>rfl
 | n :: ns=>Zql ns
theorem Zs1 (u s:Nat):(bmB u s).all Zc1=true:=by simp [bmB,Yy,Zc1]
theorem Zu4:Rv.all Zc1=true:=by kernel_rfl
structure Img (a b c d k:Nat) (L:List (List C)):Prop where
 len:L.length=2+d+a * b
 im:imB L=true
 bi:Zqm L=true
 de:L[1]? = some (Rl a b c)
 bm:∀ j,j<k→L[2+d+j * b+1]? = some (bmB (if j=0 then 1 else 0) c)
 tb:∀ j r,j<a→2+r<b→L[2+d+j * b+2+r]? = some zB
theorem Zfm (u s:Nat):(bmB u s).length=256:=U3 _
theorem Zc8 (u s:Nat):(bmB u s).all C.flat=true:=by simp [bmB,Yy,C.flat]
theorem Uf {j k b:Nat} (h:j<k):j * b+b≤k * b:=by
 have:=Nat.mul_le_mul_right b h
 rwa [Nat.succ_mul] at this
theorem Img.step {a b c d k:Nat} {L:List (List C)} (I:Img a b c d k L) (hb:16≤b) (hk:k<a) {x:List C} (xl:x.length=256) (xf:x.all C.flat=true) (xi:x.all Zc1=true):Img a b c d (k+1) ((L.set (2+d+k * b) x).set (2+d+k * b+1) (bmB (if k=0 then 1 else 0) c)):=by
 have h0:=I.len
 have hs:=Uf (b:=b) hk
 refine⟨by rw[List.length_set,List.length_set]; exact h0,Lr (Lr I.im xl xf _) (Zfm _ _) (Zc8 _ _) _,Sz (Sz I.bi xi _) (Zs1 _ _) _,?_,fun j hj=>?_,fun j r hj hr=>?_⟩
 ·rw[List.getElem?_set_ne (by omega),List.getElem?_set_ne (by omega)]
  exact I.de
 ·rcases Nat.lt_or_ge j k with h1|h1
  ·have:=Uf (b:=b) h1
   rw[List.getElem?_set_ne (by omega),List.getElem?_set_ne (by omega)]
   exact I.bm j h1
  ·obtain rfl:j=k:=by omega
   rw[List.getElem?_set_self (by rw[List.length_set]; omega)]
 ·have h1:j * b+2+r≠k * b∧j * b+2+r≠k * b+1:=by
   rcases Nat.lt_trichotomy j k with q|q|q
   ·have:=Uf (b:=b) q; omega
   ·subst q; omega
   ·have:=Uf (b:=b) q; omega
  rw[List.getElem?_set_ne (by omega),List.getElem?_set_ne (by omega)]
  exact I.tb j r hj hr
structure Image (a b c d:Nat) (L:List (List C)):Prop where
 len:L.length=2+d+a * b
 im:imB L=true
 bi:Zqm L=true
 de:L[1]? = some (Rl a b c)
 bm:∀ j,j<a→L[2+d+j * b+1]? = some (bmB (if j=0 then 1 else 0) c)
 ti:∀ j r,j<a→2+r<b→L[2+d+j * b+2+r]? = some (if j=0∧r=0 then Rv else zB)
theorem Img.last {a b c d:Nat} {L:List (List C)} (I:Img a b c d a L) (hb:16≤b) (ha:1≤a):Image a b c d (L.set (2+d+2) Rv):=by
 have h0:=I.len
 have h1:=Uf (b:=b) (show 0<a by omega)
 refine⟨by rw[List.length_set]; exact h0,Lr I.im Zje Zgw _,Sz I.bi Zu4 _,?_,fun j hj=>?_,fun j r hj hr=>?_⟩
 ·rw[List.getElem?_set_ne (by omega)]; exact I.de
 ·have:j * b≠1:=by
   rcases Nat.eq_zero_or_pos j with rfl|q
   ·omega
   ·have:=Uf (b:=b) q; omega
  rw[List.getElem?_set_ne (by omega)]
  exact I.bm j hj
 ·rcases Nat.eq_zero_or_pos j with rfl|q
  ·rcases Nat.eq_zero_or_pos r with rfl|q
   ·rw[Nat.zero_mul,Nat.add_zero,List.getElem?_set_self (by omega),if_pos ⟨rfl,rfl⟩]
   ·rw[List.getElem?_set_ne (by omega),if_neg (by omega)]
    exact I.tb 0 r hj hr
  ·have:=Uf (b:=b) q
   rw[List.getElem?_set_ne (by omega),if_neg (by omega)]
   exact I.tb j r hj hr
theorem Image.tb {a b c d:Nat} {L:List (List C)} (I:Image a b c d L) (hb:16≤b) (j:Nat) (hj:j<a):L[2+d+j * b+2]? = some (if j=0 then Rv else zB):=by
 have:=I.ti j 0 hj (by omega)
 rw[Nat.add_zero] at this
 rw[this]
 by_cases h:j=0
 ·rw[if_pos ⟨h,rfl⟩,if_pos h]
 ·rw[if_neg (fun e=>h e.1),if_neg h]
noncomputable def Z2u:Kn1:=fun args h=>match args with
 | [.c (.int .i64 u),.c (.int .i64 z)]=>(Ul u).bind fun u=>(Ul z).bind fun z=>Y9 (decide (u≤z)&&decide (z≤2048)) (some (.w (.g (bmB u z)),h))
 | _=>none
noncomputable def xWr:Kn1:=fun args h=>match args with
 | [.c (.int .i64 z),.g x,.c (.int .i64 e),.c (.ptr _ 0),.c (.ptr q 0)]=>(Ul z).bind fun i=>match h.get q with
  | some (.row s [[.slice r 0 len w]] _)=>(match h.get r with
   | some (.row s2 L ro)=>Y9 (Nat.beq s 1&&Nat.beq w 256&&Nat.beq s2 256&&!ro&&decide (e=0)&&Nat.beq x.length 256&&x.all C.flat&&decide (i<len)&&Nat.beq L.length len&&imB L) (some (.tup [],h.put r (.row 256 (L.set i x) false)))
   | _=>none)
  | _=>none
 | _=>none
attribute [go_sem] Z2u xWr
section
variable (Hh:Hearts K Tryz.prog)
include Hh
theorem Zsl {args:List W} {h h':Go.Ev.H} {v:V} (e:Z2u args h=some (v,h')):Ze K Tryz.prog 59 args h v h':=by
 unfold Z2u at e
 split at e
 ·obtain⟨u,hu,e⟩:=Zo e
  obtain⟨z,hz,e⟩:=Zo e
  obtain⟨b,e⟩:=Zv.1 e
  simp only[Bool.and_eq_true,decide_eq_true_eq] at b
  cases e
  rw[Z6 hu,Z6 hz]
  exact Zo3 Hh h u z b.1 b.2
 ·cases e
theorem Zhh {args:List W} {h h':Go.Ev.H} {v:V} (e:xWr args h=some (v,h')):Ze K Tryz.prog 53 args h v h':=by
 unfold xWr at e
 split at e
 ·rename_i z x e0 q5 q
  obtain⟨i,hi,e⟩:=Zo e
  split at e
  ·rename_i s r len w ro heq
   split at e
   ·rename_i s2 L ro2 heq2
    obtain⟨b,e2⟩:=Zv.1 e
    clear e
    simp only[Bool.and_eq_true,decide_eq_true_eq,Bool.not_eq_true'] at b
    obtain⟨⟨⟨⟨⟨⟨⟨⟨⟨b1,b2⟩,b3⟩,rfl⟩,rfl⟩,b6⟩,xf⟩,il⟩,b9⟩,im⟩:=b
    obtain rfl:=Nat.eq_of_beq_eq_true b1
    obtain rfl:=Nat.eq_of_beq_eq_true b2
    obtain rfl:=Nat.eq_of_beq_eq_true b3
    have xl:=Nat.eq_of_beq_eq_true b6
    have Ll:=Nat.eq_of_beq_eq_true b9
    cases e2
    rw[Z6 hi]
    refine Ze.tidy ⟨Tryz.f53,Tryz.func53,by kernel_rfl,by decide⟩ fun tidy=>?_
    have l1:=tidy _ _ heq
    have l2:=tidy _ _ heq2
    obtain⟨y,hy⟩:∃ y,L[i]? = some y:=⟨_,List.getElem?_eq_getElem (by omega)⟩
    have yl:=(Zfj im (List.mem_of_getElem? hy)).1
    have wr:Z5 256 L (i * 256) x=some (L.set i x):=Ze2 xl (by omega) hy yl
    obtain⟨v,h',c,rfl,hk⟩:∃ v h',Ze K Tryz.prog 53 [.c (.int .i64 (i:Int)),.g x,.c (.int .i64 0),.c (.ptr q5 0),.c (.ptr q 0)] h v h'∧v=.tup []∧∀ m,m<h.next→h'.get m=(h.put r (.row 256 (L.set i x) false)).get m:=by
     refine Ze.Z8 fits Hh (by kernel_rfl) (by kernel_rfl) (by kernel_rfl) (show Tryz.f53.body=some _ from rfl) rfl ?_
     repeat (first|apply Goes.seq|apply Goes.block|apply Goes.loop|apply Goes.skip|apply Goes.exit|apply Goes.ret|((first|apply Goes.Zr|apply Goes.ops2 fits Hh Zc); · simp (maxSteps:=9^6) +decide (disch:=first|omega|(simp only[lens]<;>omega)|decide) only [go_sem,Za,simprocAttr,heq,heq2,wr,xl,Nat.zero_add,read1,Zw]<;>rfl))
     exact⟨_,_,(by simp (maxSteps:=9^6) +decide (disch:=first|omega|(simp only[lens]<;>omega)|decide) only [go_sem,Za,simprocAttr]<;>rfl),rfl,fun m hm=>by (first|(simp (discharger:=omega) only [H.get_put,H.Zi,H.Zm,H.Zd,H.Zg,H.Zj,if_neg]; done)|(simp only[H.get_put,H.Zi,H.Zm,H.Zd,H.Zg,H.Zj]; (repeat' split)<;>first|rfl|(exfalso; omega)|omega))⟩
    refine c.settle ((Np.refl tidy).put l2 (Zmd fun τ _=>?_)) (Ze9.flat rfl) hk
    exact Ol (fun l hl=>Ol (fun a ha=>C.Jy ha _) hl) (Ziq (Lr im xl xf i))
   ·cases e
  ·cases e
 ·cases e
end
end Go.Proofs.YtngejdlimkgjfaaGreatDoor
set_option maxRecDepth 100000
set_option maxHeartbeats 4000000
namespace Go.Proofs.YtngejdlimkgjfaaGreatDoor
open Go.Ev
theorem ty28:K.types.get 28=some ti28:=by kernel_rfl
theorem sz28:ti28.size=11:=by rfl
theorem ag28:ti28.agg=true:=by rfl
theorem de28:ti28.desc=(.array 11 27):=by rfl
theorem ze28:ti28.zero=(.g ((List.replicate 11 (.int .u32 0)))):=by rfl
theorem by28:ti28.bytes=44:=by rfl
theorem eq28 (a b:List C):eqT K 20 28 (.g a) (.g b)=(bif true&&Nat.beq a.length 11&&Nat.beq b.length 11 then Yo a b else none):=by kernel_rfl
theorem ty30:K.types.get 30=some ti30:=by kernel_rfl
theorem sz30:ti30.size=16:=by rfl
theorem ag30:ti30.agg=true:=by rfl
theorem fo30_0:Zu K 30 0=some (0,ti5):=by kernel_rfl
theorem fo30_1:Zu K 30 1=some (1,ti3):=by kernel_rfl
theorem fo30_2:Zu K 30 2=some (2,ti27):=by kernel_rfl
theorem fo30_3:Zu K 30 3=some (3,ti3):=by kernel_rfl
theorem fo30_4:Zu K 30 4=some (4,ti28):=by kernel_rfl
theorem fo30_5:Zu K 30 5=some (15,ti27):=by kernel_rfl
theorem bu30 (ps:List (Nat × W)):Yq K 30 (some ps)=gW (Yb K 30 ps ti30.zero.cells):=by kernel_rfl
theorem ze30:ti30.zero=(.g ([.int .u8 0,.int .i64 0,.int .u32 0,.int .i64 0,.int .u32 0,.int .u32 0,.int .u32 0,.int .u32 0,.int .u32 0,.int .u32 0,.int .u32 0,.int .u32 0,.int .u32 0,.int .u32 0,.int .u32 0,.int .u32 0])):=by rfl
theorem by30:ti30.bytes=80:=by rfl
theorem ty111:K.types.get 111=some ti111:=by kernel_rfl
theorem sz111:ti111.size=2:=by rfl
theorem ag111:ti111.agg=true:=by rfl
theorem fo111_0:Zu K 111 0=some (0,ti27):=by kernel_rfl
theorem fo111_1:Zu K 111 1=some (1,ti3):=by kernel_rfl
theorem bu111 (ps:List (Nat × W)):Yq K 111 (some ps)=gW (Yb K 111 ps ti111.zero.cells):=by kernel_rfl
theorem ze111:ti111.zero=(.g ([.int .u32 0,.int .i64 0])):=by rfl
theorem by111:ti111.bytes=16:=by rfl
attribute [go_sem] ty28 sz28 ag28 de28 ze28 by28 eq28 ty30 sz30 ag30 fo30_0 fo30_1 fo30_2 fo30_3 fo30_4 fo30_5 bu30 ze30 by30 ty111 sz111 ag111 fo111_0 fo111_1 bu111 ze111 by111
noncomputable def q16 (p:List Nat):Code:=piece p (Yc Tryz.f16)
theorem rs16:Tryz.f16.results.toList=[.tmp 2,.tmp 3]:=rfl
attribute [go_sem] rs16
theorem Vs {a b c:Nat} (h:1≤a):(G5 a b c).length=a:=by
 rw[G5,List.length_cons,List.length_replicate]
 omega
theorem Zbd {a b c:Nat} (h:1≤c):(G5 a b c).all (Tv (b - 2 - c / 4) c)=true:=by
 refine List.all_eq_true.2 fun x hx=>?_
 rcases List.mem_cons.1 hx with rfl|hx
 ·simp only[Tv]
  rw[D5 (Nat.le_refl _),D5 (by omega),D5 (by omega)]
  rfl
 ·obtain rfl:=(List.mem_replicate.1 hx).2
  simp only[Tv]
  rw[D5 (Nat.le_refl _),D5 (Nat.le_refl _),D5 (by omega)]
  rfl
theorem Sv:∀ (D:List Dq) (i:Nat) (x:List Nat),(Ea D i x).length=x.length
 | [],_,_=>rfl
 | d :: D,i,x=>by rw[Ea,Sv D,Zld]
theorem Zd4 (a b c:Nat):(Rl a b c).length=256:=by
 rw[Rl,De,O3,Yj,Sv]
 exact Rn
theorem Zio (a b c:Nat):(Rl a b c).all C.flat=true:=Fs _
section
variable (Hh:Hearts K Tryz.prog)
include Hh
theorem Z4g {a b c d n N:Nat} (f:Jm a b c d=true) (hN:2+d+a * b=N):∀ (j k:Nat) (L:List (List C)) (ts:Zx) (h:Go.Ev.H),k+j=a→Img a b c d k L→h.get n=some (.row 4 [[.int .i64 (a:Int),.int .i64 (b:Int),.int .i64 (c:Int),.int .i64 (d:Int)]] false)→h.get (n+1)=some (.row 256 L false)→h.get (n+1+1)=some (.row 1 [[.slice (n+1) 0 N 256]] false) →
  Zq ts 1=.w (.c (.ptr n 0))→Zq ts 6=.w (.c (.fn 53 [] [some (n+1+1+1,0),some (n+1+1,0)]))→Zq ts 54=.w (.c (.int .i64 (a:Int)))→Zq ts 55=.w (.c (.int .i64 (k:Int))) →
  Goes K Tryz.prog 104 none (q16 [1,1,1,1,1,1,1,1,1,1,1,0,1,2]) [] ts h fun x ds' ts' h'=>x=.exit 0∧ds'=[]∧h'.next=h.next∧(∃ L',Img a b c d a L'∧h'.get (n+1)=some (.row 256 L' false))∧(∀ m,m≠n+1→h'.get m=h.get m)∧∀ s,s≤8→Zq ts' s=Zq ts s:=by
 obtain⟨g1,g2,g3,g4,g5,g6,g7,g8,g9,g10,g11⟩:=Z0 f
 intro j
 induction j with
 | zero =>
  intro k L ts h hk I hg hL hs h1 h6 h54 h55
  obtain rfl:k=a:=by omega
  iterate 6 (first|apply Goes.seq|apply Goes.exit|apply Goes.loop|((first|apply Goes.Zr|apply Goes.ops2 fits Hh Zc); · simp (maxSteps:=9^6) +decide (disch:=first|omega|(simp only[lens]<;>omega)|decide) only [go_sem,Zf,Za,simprocAttr,h54,h55]<;>rfl))
  refine⟨rfl,rfl,rfl,⟨L,I,hL⟩,fun _ _=>rfl,fun s hs=>?_⟩
  simp (decide:=true) only [Uv hs]
 | succ j ih =>
  intro k L ts h hk I hg hL hs h1 h6 h54 h55
  have ka:k<a:=by omega
  have Ll:L.length=N:=by rw[I.len,hN]
  have im:=I.im
  have st:=Uf (b:=b) ka
  have bx:=Zfm (2+c / 4) b
  have bxf:=Zc8 (2+c / 4) b
  have e1:((2+d+k * b:Nat):Int)+1=((2+d+k * b+1:Nat):Int):=rfl
  have e2:(2:Int)+((c / 4:Nat):Int)=((2+c / 4:Nat):Int):=rfl
  have e3:(k:Int)+1=((k+1:Nat):Int):=rfl
  have q1:M0 .i64 (c:Int) 4=some (.int .i64 ((c / 4:Nat):Int)):=L6 (b:=4) (by omega) (by omega)
  have i1:imB (L.set (2+d+k * b) (bmB (2+c / 4) b))=true:=Lr im bx bxf _
  have I2:=I.step g3 ka bx bxf (Zs1 _ _)
  obtain⟨z,hz⟩:∃ z,2+d+k * b=z:=⟨_,rfl⟩
  rw[hz] at e1 i1 I2
  by_cases k0:k=0
  ·rw[if_pos k0] at I2
   have bl:=Zfm 1 c
   have bf:=Zc8 1 c
   iterate 23 (first|apply Goes.seq|apply Goes.skip|apply Goes.block|apply Goes.loop|((first|apply Goes.Zr|apply Goes.ops2 fits Hh (Zh (Zh (Zh Zc (fun _ _ _ _=>Nn Hh)) (fun _ _ _ _=>Zsl Hh)) (fun _ _ _ _=>Zhh Hh))); · simp (maxSteps:=9^6) +decide (disch:=first|omega|(simp only[lens]<;>omega)|decide) only [go_sem,Zf,Za,simprocAttr,f,hg,hL,hs,h1,h6,h54,h55,hz,e1,e2,e3,q1,Ll,im,i1,bx,bxf,bl,bf,List.length_set,List.map_cons,Ed,List.cons_append,read1]<;>rfl))
   show Goes K Tryz.prog 104 none (q16 [1,1,1,1,1,1,1,1,1,1,1,0,1,2]) _ _ _ _
   refine (ih (k+1) _ _ _ (by omega) I2 ?_ ?_ ?_ ?_ ?_ ?_ ?_).mono ?_
   ·rw[Zp (by omega),Zp (by omega)]; exact hg
   ·rw[Z9]
   ·rw[Zp (by omega),Zp (by omega)]; exact hs
   ·simp (decide:=true) only [Zn,reduceIte,h1]
   ·simp (decide:=true) only [Zn,reduceIte,h6]
   ·simp (decide:=true) only [Zn,reduceIte,h54]
   ·simp (decide:=true) only [Zn,reduceIte]<;>rfl
   rintro x ds' ts' h' ⟨r1,r2,r3,r4,r5,r6⟩
   refine⟨r1,r2,r3,r4,fun m hm=>(r5 m hm).trans (by rw[Zp hm,Zp hm]),fun s hs=>(r6 s hs).trans ?_⟩
   simp (decide:=true) only [Uv hs]
  ·rw[if_neg k0] at I2
   have bl:=Zfm 0 c
   have bf:=Zc8 0 c
   iterate 23 (first|apply Goes.seq|apply Goes.skip|apply Goes.block|apply Goes.loop|((first|apply Goes.Zr|apply Goes.ops2 fits Hh (Zh (Zh (Zh Zc (fun _ _ _ _=>Nn Hh)) (fun _ _ _ _=>Zsl Hh)) (fun _ _ _ _=>Zhh Hh))); · simp (maxSteps:=9^6) +decide (disch:=first|omega|(simp only[lens]<;>omega)|decide) only [go_sem,Zf,Za,simprocAttr,f,hg,hL,hs,h1,h6,h54,h55,hz,e1,e2,e3,q1,Ll,im,i1,bx,bxf,bl,bf,List.length_set,List.map_cons,Ed,List.cons_append,read1]<;>rfl))
   show Goes K Tryz.prog 104 none (q16 [1,1,1,1,1,1,1,1,1,1,1,0,1,2]) _ _ _ _
   refine (ih (k+1) _ _ _ (by omega) I2 ?_ ?_ ?_ ?_ ?_ ?_ ?_).mono ?_
   ·rw[Zp (by omega),Zp (by omega)]; exact hg
   ·rw[Z9]
   ·rw[Zp (by omega),Zp (by omega)]; exact hs
   ·simp (decide:=true) only [Zn,reduceIte,h1]
   ·simp (decide:=true) only [Zn,reduceIte,h6]
   ·simp (decide:=true) only [Zn,reduceIte,h54]
   ·simp (decide:=true) only [Zn,reduceIte]<;>rfl
   rintro x ds' ts' h' ⟨r1,r2,r3,r4,r5,r6⟩
   refine⟨r1,r2,r3,r4,fun m hm=>(r5 m hm).trans (by rw[Zp hm,Zp hm]),fun s hs=>(r6 s hs).trans ?_⟩
   simp (decide:=true) only [Uv hs]
end
end Go.Proofs.YtngejdlimkgjfaaGreatDoor
set_option maxRecDepth 100000
set_option maxHeartbeats 8000000
namespace Go.Proofs.YtngejdlimkgjfaaGreatDoor
open Go.Ev
theorem Img.start {a b c d:Nat} (S H:List C) (sl:S.length=256) (sf:S.all C.flat=true) (hl:H.length=256) (hf:H.all C.flat=true) (si:S.all Zc1=true) (hi:H.all Zc1=true) (hd:40≤d) (hb:16≤b):Img a b c d 0 ((((List.replicate (2+d+a * b) zB).set 0 S).set 1 (Rl a b c)).set 2 H):=by
 refine⟨by simp only[List.length_set,List.length_replicate],Lr (Lr (Lr (Zr9 _) sl sf _) (Zd4 a b c) (Zio a b c) _) hl hf _,Sz (Sz (Sz (Zzz _) si _) (Zql _) _) hi _,?_,fun j hj=>by omega,fun j r hj hr=>?_⟩
 ·rw[List.getElem?_set_ne (by omega),List.getElem?_set_self (by simp only[List.length_set,List.length_replicate]; omega)]
 ·have:=Uf (b:=b) hj
  rw[List.getElem?_set_ne (by omega),List.getElem?_set_ne (by omega),List.getElem?_set_ne (by omega),List.getElem?_replicate,if_pos (by omega)]
section
variable (Hh:Hearts K Tryz.prog)
include Hh
theorem Z3l {a b c d:Nat} (f:Jm a b c d=true) {h:Go.Ev.H} (hst:h.get 0=some O1) (l0:0<h.next):∃ L,Image a b c d L∧Ze K Tryz.prog 16 [.g [.int .i64 (a:Int),.int .i64 (b:Int),.int .i64 (c:Int),.int .i64 (d:Int)]] h (.tup [.c (.slice h.next 0 (2+d+a * b) 256),.c (.int .i64 0)]) (h.new (.row 256 L false)):=by
 obtain⟨g1,g2,g3,g4,g5,g6,g7,g8,g9,g10,g11⟩:=Z0 f
 obtain⟨N,hN⟩:∃ N,2+d+a * b=N:=⟨_,rfl⟩
 have ha:=Uf (b:=b) (show 0<a by omega)
 have hX:pgL (O3 (Ea (G5 a b c) 0 Ou))=Rl a b c:=rfl
 have xl:=Zd4 a b c
 have xf:=Zio a b c
 have fl:=Vs (b:=b) (c:=c) g1
 have fm:=Zbd (a:=a) (b:=b) (c:=c) (by omega)
 obtain⟨S,hS⟩:∃ S,pgL (Zwl a b c d)=S:=⟨_,rfl⟩
 have sl:S.length=256:=by rw[←hS,De,Zv6]
 have sf:S.all C.flat=true:=by rw[←hS]; exact Fs _
 obtain⟨Hd,hH⟩:∃ x,Zsm=x:=⟨_,rfl⟩
 have hl:Hd.length=256:=by rw[←hH]; exact Zvd
 have hf:Hd.all C.flat=true:=by rw[←hH]; exact Zrq
 have si:S.all Zc1=true:=by rw[←hS]; exact Zql _
 have hi:Hd.all Zc1=true:=by rw[←hH]; kernel_rfl
 have I0:=Img.start (a:=a) (b:=b) (c:=c) (d:=d) S Hd sl sf hl hf si hi g8 g3
 have fz:List.replicate 256 (C.int .u8 0)=zB:=rfl
 have zl:zB.length=256:=by kernel_rfl
 have zf:=Ztc
 have im0:imB (List.replicate N zB)=true:=Zr9 _
 have im1:imB ((List.replicate N zB).set 0 S)=true:=Lr im0 sl sf _
 have im2:imB (((List.replicate N zB).set 0 S).set 1 (Rl a b c))=true:=Lr im1 xl xf _
 have rl:=Zje
 have rf:=Zgw
 rw[hN] at I0 ⊢
 obtain⟨v,h',cc,n',L,rfl,I,n1,n2,n3,hk⟩:∃ v h',Ze K Tryz.prog 16 [.g [.int .i64 (a:Int),.int .i64 (b:Int),.int .i64 (c:Int),.int .i64 (d:Int)]] h v h'∧∃ n' L,v=.tup [.c (.slice n' 0 N 256),.c (.int .i64 0)]∧Image a b c d L∧h.next≤n'∧n'<h'.next∧h'.get n'=some (.row 256 L false)∧∀ m,m<h.next→h'.get m=h.get m:=by
  refine Ze.Z8 fits Hh (by kernel_rfl) (by kernel_rfl) (by kernel_rfl) (show Tryz.f16.body=some _ from rfl) rfl ?_
  iterate 29 (first|apply Goes.seq|apply Goes.skip|apply Goes.block|((first|apply Goes.Zr|apply Goes.ops2 fits Hh (Zh (Zh (Zh (Zh (Zh (Zh (Zh Zc (fun _ _ _ _=>U9 Hh)) (fun _ _ _ _=>Gl Hh)) (fun _ _ _ _=>Zsh Hh)) (fun _ _ _ _=>Zhh Hh)) (fun _ _ _ _=>Zkg Hh)) (fun _ _ _ _=>Zky Hh)) (fun _ _ _ _=>Zhf Hh))); · simp (maxSteps:=9^6) +decide (disch:=first|omega|(simp only[lens]<;>omega)|decide) only [go_sem,Za,simprocAttr,f,hst,hN,hX,xl,xf,fl,fm,hS,sl,sf,hH,hl,hf,fz,zl,zf,im0,im1,im2,rl,rf,rd4,List.length_set,List.length_replicate,List.map_cons,Ed,List.cons_append,read1,Zw,Ua,Y7]<;>rfl)|(apply Goes.drawn2 fits Hh (Zh (Zh (Zh (Zh (Zh (Zh (Zh Zc (fun _ _ _ _=>U9 Hh)) (fun _ _ _ _=>Gl Hh)) (fun _ _ _ _=>Zsh Hh)) (fun _ _ _ _=>Zhh Hh)) (fun _ _ _ _=>Zkg Hh)) (fun _ _ _ _=>Zky Hh)) (fun _ _ _ _=>Zhf Hh)) (by kernel_rfl); · simp (maxSteps:=9^6) +decide (disch:=first|omega|(simp only[lens]<;>omega)|decide) only [go_sem,Za,simprocAttr,Js,Y2,Jd,Jo,Yv,Jp,Jf,Ye,Ja,Jr,Ux,Jg,Ya,Ym,Yh,Yg,Je,Yt,Y0,Yd,Yu,Jb,Oy,U8,Oj,Ee,Ep,Ue,Ug,Jn,Om,Uj,Ur,Jq,Y1,Uo,looks,O5,Op.operands,Call.operands,kd,Ud,List.filterMap_cons,List.filterMap_nil,List.append_nil,List.nil_append,List.cons_append,Ji,stable,Jl,J4,Jt,waits,Yr,List.all_cons,List.all_nil,List.any_cons,List.any_nil,Region.binds,Bool.or_true,Bool.true_or,Bool.and_true,Bool.true_and,Bool.or_false,Bool.false_or,Bool.and_self,Bool.or_self,Jc,Nat.le_refl,Nat.le_add_right,List.map_cons,Array.toList_append,f,hst,hN,hX,xl,xf,fl,fm,hS,sl,sf,hH,hl,hf,fz,zl,zf,im0,im1,im2,rl,rf,rd4,List.length_set,List.length_replicate,List.map_cons,Ed,List.cons_append,read1,Zw,Ua,Y7]<;>rfl))
  refine (Z4g Hh f hN a 0 _ _ _ (n:=h.next) (by omega) I0 ?_ ?_ ?_ ?_ ?_ ?_ ?_).mono ?_
  ·simp (maxSteps:=9^6) +decide (disch:=first|omega|(simp only[lens]<;>omega)|decide) only [go_sem,Za,simprocAttr]<;>rfl
  ·simp (maxSteps:=9^6) +decide (disch:=first|omega|(simp only[lens]<;>omega)|decide) only [go_sem,Za,simprocAttr]<;>rfl
  ·simp (maxSteps:=9^6) +decide (disch:=first|omega|(simp only[lens]<;>omega)|decide) only [go_sem,Za,simprocAttr]<;>rfl
  ·simp (decide:=true) only [Zn,reduceIte]
  ·simp (decide:=true) only [Zn,reduceIte]
  ·simp (decide:=true) only [Zn,reduceIte]
  ·simp (decide:=true) only [Zn,reduceIte]<;>rfl
  rintro x ds' ts' h' ⟨rfl,rfl,e3,⟨L,I1,hL⟩,kp,tk⟩
  simp only[H.Zg,H.Zd] at e3
  have f1:Zq ts' 1=.w (.c (.ptr h.next 0)):=(tk 1 (by decide)).trans (by simp (decide:=true) only [Zn,reduceIte])
  have f3:Zq ts' 3=.w (.c (.int .i64 0)):=(tk 3 (by decide)).trans (by simp (decide:=true) only [Zn,reduceIte]<;>rfl)
  have f4:Zq ts' 4=.w (.c (.ptr (h.next+1+1) 0)):=(tk 4 (by decide)).trans (by simp (decide:=true) only [Zn,reduceIte])
  have f5:Zq ts' 5=.w (.c (.ptr (h.next+1+1+1) 0)):=(tk 5 (by decide)).trans (by simp (decide:=true) only [Zn,reduceIte])
  have f6:Zq ts' 6=.w (.c (.fn 53 [] [some (h.next+1+1+1,0),some (h.next+1+1,0)])):=(tk 6 (by decide)).trans (by simp (decide:=true) only [Zn,reduceIte])
  have f7:Zq ts' 7=.w (.c (.ptr (h.next+1+1+1+1) 0)):=(tk 7 (by decide)).trans (by simp (decide:=true) only [Zn,reduceIte])
  have k0:=(kp h.next (by omega)).trans (show _=some (.row 4 [[.int .i64 (a:Int),.int .i64 (b:Int),.int .i64 (c:Int),.int .i64 (d:Int)]] false) by simp (maxSteps:=9^6) +decide (disch:=first|omega|(simp only[lens]<;>omega)|decide) only [go_sem,Za,simprocAttr]<;>rfl)
  have k2:=(kp (h.next+1+1) (by omega)).trans (show _=some (.row 1 [[.slice (h.next+1) 0 N 256]] false) by simp (maxSteps:=9^6) +decide (disch:=first|omega|(simp only[lens]<;>omega)|decide) only [go_sem,Za,simprocAttr]<;>rfl)
  have k3:=(kp (h.next+1+1+1) (by omega)).trans (show _=some (.row 1 [[.int .i64 0]] false) by simp (maxSteps:=9^6) +decide (disch:=first|omega|(simp only[lens]<;>omega)|decide) only [go_sem,Za,simprocAttr]<;>rfl)
  have k4:=(kp (h.next+1+1+1+1) (by omega)).trans (show _=some (.row 256 [Hd] false) by simp (maxSteps:=9^6) +decide (disch:=first|omega|(simp only[lens]<;>omega)|decide) only [go_sem,Za,simprocAttr]<;>rfl)
  have kk:∀ m,m<h.next→h'.get m=h.get m:=fun m hm=>(kp m (by omega)).trans (by (first|(simp (discharger:=omega) only [H.get_put,H.Zi,H.Zm,H.Zd,H.Zg,H.Zj,if_neg]; done)|(simp only[H.get_put,H.Zi,H.Zm,H.Zd,H.Zg,H.Zj]; (repeat' split)<;>first|rfl|(exfalso; omega)|omega)))
  clear kp tk
  have i1:=I1.im
  have Ll:L.length=N:=by rw[I1.len,hN]
  have ac:1≤a * c:=Nat.mul_pos (by omega) (by omega)
  have t1:(1:Int).toNat - 1=0:=rfl
  have lst:=I1.last g3 g1
  obtain⟨z,hz⟩:∃ z,2+d+2=z:=⟨_,rfl⟩
  rw[hz] at lst
  have zN:z<N:=by omega
  iterate 16 (first|apply Goes.seq|apply Goes.skip|apply Goes.ret|((first|apply Goes.Zr|apply Goes.ops2 fits Hh (Zh (Zh (Zh Zc (fun _ _ _ _=>En Hh)) (fun _ _ _ _=>Zvj Hh)) (fun _ _ _ _=>Zhh Hh))); · simp (maxSteps:=9^6) +decide (disch:=first|omega|(simp only[lens]<;>omega)|decide) only [go_sem,Za,simprocAttr,f,f1,f3,f4,f5,f6,f7,k0,k2,k3,k4,hL,i1,Ll,t1,hz,fz,zl,zf,hl,rl,rf,rd4,Nat.zero_div,Nat.zero_mul,Nat.zero_mod,Nat.add_zero,Nat.sub_self,List.map_cons,Ed,List.cons_append,read1]<;>rfl))
  refine⟨_,_,(by simp (maxSteps:=9^6) +decide (disch:=first|omega|(simp only[lens]<;>omega)|decide) only [go_sem,Za,simprocAttr]<;>rfl),_,_,rfl,lst,by omega,?_,?_,fun m hm=>?_⟩
  ·simp only[H.Zg,H.Zd]<;>omega
  ·simp (discharger:=omega) only [H.get_put,if_neg,if_pos,if_true]
  ·refine Eq.trans ?_ (kk m hm)
   (first|(simp (discharger:=omega) only [H.get_put,H.Zi,H.Zm,H.Zd,H.Zg,H.Zj,if_neg]; done)|(simp only[H.get_put,H.Zi,H.Zm,H.Zd,H.Zg,H.Zj]; (repeat' split)<;>first|rfl|(exfalso; omega)|omega))
 rw[show N=N from rfl]
 exact⟨L,I,Ze.row cc n1 n3 rfl (Ziq I.im) n2 hk⟩
end
end Go.Proofs.YtngejdlimkgjfaaGreatDoor
