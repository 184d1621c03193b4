/- mkfs.descs. -/
import Derived.Test.YtecakmodlkbnaaaGreatDoorStrX
import Derived.Test.YtecakmodlkbnaaaGreatDoorBtk
import Derived.Test.YtecakmodlkbnaaaGreatDoorEvC
import Derived.Test.YtecakmodlkbnaaaGreatDoorCrcX
import Derived.Test.YtecakmodlkbnaaaGreatDoorNew2
import Derived.KernelRfl
import Derived.Test.YtecakmodlkbnaaaGreatDoorIpu
set_option linter.unusedSimpArgs false
set_option linter.unusedVariables false
set_option linter.unusedSectionVars false
set_option maxRecDepth 100000
set_option maxHeartbeats 10000000
namespace Go.Proofs.YtecakmodlkbnaaaGreatDoor
open Go.Ev
theorem rs60:Tryz.f60.results.toList=[.tmp 2]:=rfl
attribute [go_sem] rs60
def R4 (a b c:Nat):List Oy:=(b - 2 - c / 4,c - 1,1) :: List.replicate (a - 1) (b - 2 - c / 4,c,0)
noncomputable def Ztv:Kn1:=fun args h=>match args with
 | [.g [.int .i64 a,.int .i64 b,.int .i64 c,.int .i64 d]]=>Zax a b c d fun a b c _=>some (.w (.c (.slice h.next 0 a 3)),h.new (.row 3 ((R4 a b c).map Uj) false))
 | _=>none
attribute [go_sem] Ztv
theorem wc31 (x y z c:C) (L:List (List C)):Z4 3 ([x,y,z] :: L) 1 [c]=some ([x,c,z] :: L):=rfl
theorem wc32 (x y z c:C) (L:List (List C)):Z4 3 ([x,y,z] :: L) 2 [c]=some ([x,y,c] :: L):=rfl
section
variable (Hh:Hearts K Tryz.prog)
include Hh
theorem Zki {args:List W} {h h':Go.Ev.H} {v:V} (e:Ztv args h=some (v,h')):Zg 60 args h v h':=by
 unfold Ztv at e
 split at e
 ·obtain⟨a,b,c,d,rfl,rfl,rfl,rfl,f,e⟩:=Oh e
  cases e
  obtain⟨g1,g2,g3,g4,g5,g6,g7,g8,g9,g10,g11⟩:=Zv f
  obtain⟨q,hq⟩:∃ q,b - 2 - c / 4=q:=⟨_,rfl⟩
  have ec:(c:Int) - 1=((c - 1:Nat):Int):=by omega
  obtain⟨v,h',cc,n,rfl,n1,n2,n3,hk⟩:∃ v h',Zg 60 [.g [.int .i64 (a:Int),.int .i64 (b:Int),.int .i64 (c:Int),.int .i64 (d:Int)]] h v h'∧∃ n,v=.w (.c (.slice n 0 a 3))∧h.next≤n∧n<h'.next∧h'.get n=some (.row 3 ((R4 a b c).map Uj) false)∧∀ m,m<h.next→h'.get m=h.get m:=by
   unfold R4
   rw[hq]
   obtain rfl|rfl|rfl|rfl:a=1∨a=2∨a=3∨a=4:=by omega
   all_goals
    refine Yg Hh Tryz.f60 ?_
    repeat (first|apply Zk|apply Yt|apply Je|apply Zw|apply Ux|apply Z0|((first|apply Goes.Zi|apply Goes.ops2 fits Hh (EY Za (Zei Hh))); · simp (maxSteps:=9^6) +decide (disch:=first|omega|(simp only[lens]<;>omega)|decide) only [go_sem,Zm,simprocAttr,f,hq,ec,rd4,rd30,rd31,rd32,rd33,wr30,wr31,wr32,wr33,wc31,wc32,List.replicate_succ,List.replicate_zero,Yf,Zr,J3,Uk,Y3,read1]<;>rfl)|(apply Goes.drawn2 fits Hh (EY Za (Zei Hh)) (by kernel_rfl); · simp (maxSteps:=9^6) +decide (disch:=first|omega|(simp only[lens]<;>omega)|decide) only [go_sem,Zm,simprocAttr,drG,f,hq,ec,rd4,rd30,rd31,rd32,rd33,wr30,wr31,wr32,wr33,wc31,wc32,List.replicate_succ,List.replicate_zero,Yf,Zr,J3,Uk,Y3,read1]<;>rfl))
    exact⟨_,_,Yn,_,rfl,(by first|omega|(simp only[H.Zb,H.Zd]<;>omega)),(by first|omega|(simp only[H.Zb,H.Zd]<;>omega)),by simp (maxSteps:=9^6) +decide (disch:=first|omega|(simp only[lens]<;>omega)|decide) only [go_sem,Zm,simprocAttr,Uj,List.map_cons,List.map_nil,List.replicate_succ,List.replicate_zero]<;>rfl,fun m hm=>by exact Yc⟩
  exact Zy.row1 cc n1 n3 (Zem _) n2 hk
 ·cases e
end
end Go.Proofs.YtecakmodlkbnaaaGreatDoor
set_option maxRecDepth 100000
namespace Go.Proofs.YtecakmodlkbnaaaGreatDoor
open Go.Ev
noncomputable def q63 (p:List Nat):Code:=piece p (Uh Tryz.f63)
theorem rs63:Tryz.f63.results.toList=[.cell 4 99]:=rfl
attribute [go_sem] rs63
def Zex (i:Nat):Nat→Bool:=fun j=>decide (j<i)
def F9 (u s i:Nat):Nat→Bool:=fun j=>decide (j<u) || (decide (s≤j)&&decide (j<i))
theorem Zzk (i:Nat):Mq (Zex i) i=Zex (i+1):=by
 funext j
 unfold Mq Zex
 rw[←Bool.decide_or,decide_eq_decide]
 omega
theorem Z3u (u s i:Nat) (h:s≤i):Mq (F9 u s i) i=F9 u s (i+1):=by
 funext j
 unfold Mq F9
 rw[←Bool.decide_and,←Bool.decide_and,←Bool.decide_or,←Bool.decide_or,←Bool.decide_or,decide_eq_decide]
 omega
theorem Zt4 (u s:Nat):F9 u s s=Zex u:=by
 funext j
 unfold F9 Zex
 rw[←Bool.decide_and,←Bool.decide_or,decide_eq_decide]
 omega
theorem Zwq:List.replicate 256 (C.int .u8 0)=Jd (Zex 0):=by kernel_rfl
def bmB (u s:Nat):List C:=Jd (F9 u s 2048)
section
variable (Hh:Hearts K Tryz.prog)
include Hh
theorem bm1 (p u:Nat) (hu:u≤2048):∀ (k i:Nat) (ts:Zx) (h:Go.Ev.H),i+k=u→h.get p=some (.row 256 [Jd (Zex i)] false)→Zh ts 5=.w (.c (.ptr p 0))→Zh ts 8=.w (.c (.int .i64 u))→Zh ts 9=.w (.c (.int .i64 i)) →
  Ye 23 none (q63 [1,1,0,1,2]) [] ts h fun x ds' ts' h'=>x=.exit 0∧ds'=[]∧h'.next=h.next∧h'.get p=some (.row 256 [Jd (Zex u)] false)∧(∀ m,m≠p→h'.get m=h.get m)∧∀ s,s≤5→Zh ts' s=Zh ts s:=by
 intro k
 induction k with
 | zero =>
  intro i ts h hi hp h5 h8 h9
  obtain rfl:i=u:=by omega
  have Jf:=Yy @h8 @h9
  iterate 6 (first|apply Zk|apply Ux|apply Je|refine Goes.Zi Zj ?_|refine Zq Hh Za Zj ?_)
  refine⟨rfl,rfl,rfl,hp,fun _ _=>rfl,fun s hs=>?_⟩
  simp (decide:=true) only [Yz hs]
 | succ k ih =>
  intro i ts h hi hp h5 h8 h9
  have c1:=Zuz Hh h p i (Zex i) (by omega) (by simp [Zex]) hp
  rw[Zzk] at c1
  have Jf:=Jb @h5 @h8 @h9
  iterate 10 (first|apply Zk|apply Zw|apply Yt|apply Je|refine Goes.Zi Zj ?_|refine Zq Hh Za Zj ?_)
  iterate 2 (refine Zq Hh (Zp Za c1) Zj ?_)
  show Ye 23 none (q63 [1,1,0,1,2]) _ _ _ _
  refine (ih (i+1) _ _ (by omega) (Zz ..) ?_ ?_ ?_).mono ?_
  ·simp (decide:=true) only [Zf,reduceIte,h5]
  ·simp (decide:=true) only [Zf,reduceIte,h8]
  ·simp (decide:=true) only [Zf,reduceIte]<;>rfl
  ·rintro x ds' ts' h' ⟨e1,e2,e3,e4,e5,e6⟩
   refine⟨e1,e2,e3,e4,fun m hm=>(e5 m hm).trans (Ze hm),fun s hs=>(e6 s hs).trans ?_⟩
   simp (decide:=true) only [Yz hs]
theorem bm2 (p u z:Nat) (hz:z≤2048) (huz:u≤z):∀ (k i:Nat) (ts:Zx) (h:Go.Ev.H),i+k=2048→z≤i→h.get p=some (.row 256 [Jd (F9 u z i)] false)→Zh ts 5=.w (.c (.ptr p 0))→Zh ts 7=.w (.c (.int .i64 i)) →
  Ye 23 none (q63 [1,1,1,0,1,2]) [] ts h fun x ds' ts' h'=>x=.exit 2∧ds'=[]∧h'.next=h.next∧h'.get p=some (.row 256 [Jd (F9 u z 2048)] false)∧(∀ m,m≠p→h'.get m=h.get m)∧∀ s,s≤5→Zh ts' s=Zh ts s:=by
 intro k
 induction k with
 | zero =>
  intro i ts h hi hzi hp h5 h7
  obtain rfl:i=2048:=by omega
  have Jf:=@h7
  iterate 6 (first|apply Zk|apply Ux|apply Je|refine Goes.Zi Zj ?_|refine Zq Hh Za Zj ?_)
  refine⟨rfl,rfl,rfl,hp,fun _ _=>rfl,fun s hs=>?_⟩
  simp (decide:=true) only [Yz hs]
 | succ k ih =>
  intro i ts h hi hzi hp h5 h7
  have c1:=Zuz Hh h p i (F9 u z i) (by omega) (by simp [F9]; omega) hp
  rw[Z3u _ _ _ hzi] at c1
  have Jf:=Yy @h5 @h7
  iterate 8 (first|apply Zk|apply Zw|apply Yt|apply Je|refine Goes.Zi Zj ?_|refine Zq Hh Za Zj ?_)
  iterate 2 (refine Zq Hh (Zp Za c1) Zj ?_)
  show Ye 23 none (q63 [1,1,1,0,1,2]) _ _ _ _
  refine (ih (i+1) _ _ (by omega) (by omega) (Zz ..) ?_ ?_).mono ?_
  ·simp (decide:=true) only [Zf,reduceIte,h5]
  ·simp (decide:=true) only [Zf,reduceIte]<;>rfl
  ·rintro x ds' ts' h' ⟨e1,e2,e3,e4,e5,e6⟩
   refine⟨e1,e2,e3,e4,fun m hm=>(e5 m hm).trans (Ze hm),fun s hs=>(e6 s hs).trans ?_⟩
   simp (decide:=true) only [Yz hs]
theorem Zpy (h:Go.Ev.H) (u z:Nat) (huz:u≤z) (hz:z≤2048):Zg 63 [.c (.int .i64 u),.c (.int .i64 z)] h (.w (.g (bmB u z))) h:=by
 obtain⟨v,h',c,rfl,hk⟩:∃ v h',Zg 63 [.c (.int .i64 u),.c (.int .i64 z)] h v h'∧v=(.w (.g (bmB u z)))∧∀ m,m<h.next→h'.get m=h.get m:=by
  have z0:=Zwq
  refine Yg Hh Tryz.f63 ?_
  have Jf:=@z0
  iterate 8 (first|apply Zk|apply Yt|refine Zq Hh Za Zj ?_)
  refine (bm1 Hh (h.next+1) u (by omega) u 0 _ _ (by omega) ?_ ?_ ?_ ?_).mono ?_
  ·exact U8 _ _
  ·simp (decide:=true) only [Zf,reduceIte]
  ·simp (decide:=true) only [Zf,reduceIte]<;>rfl
  ·simp (decide:=true) only [Zf,reduceIte]<;>rfl
  rintro x ds' ts' h' ⟨rfl,rfl,n1,g1,k1,t1⟩
  have f1:=t1 1 (by decide)
  have f4:=t1 4 (by decide)
  have f5:=t1 5 (by decide)
  simp (maxSteps:=9^6) +decide (disch:=first|omega|(simp only[lens]<;>omega)|decide) only [go_sem,Zn,Zm,simprocAttr] at f1 f4 f5
  iterate 2 (apply Zk)
  skip
  iterate 2 (first|apply Yt|refine Zq Hh Za Zj ?_)
  refine (bm2 Hh (h.next+1) u z hz huz (2048 - z) z _ _ (by omega) (by omega) ?_ ?_ ?_).mono ?_
  ·rw[Zt4]; exact g1
  ·simp (decide:=true) only [Zf,reduceIte,f5]
  ·simp (decide:=true) only [Zf,reduceIte,f1]
  rintro x ds' ts2 h2 ⟨rfl,rfl,n2,g2,k2,t2⟩
  have y4:=t2 4 (by decide)
  have y5:=t2 5 (by decide)
  simp (maxSteps:=9^6) +decide (disch:=first|omega|(simp only[lens]<;>omega)|decide) only [go_sem,Zn,Zm,simprocAttr,f4,f5] at y4 y5
  have a2:h2.get h.next=some (.row 256 [Jd (Zex 0)] false):=by rw[k2 _ (by omega),k1 _ (by omega)]; simp (maxSteps:=9^6) +decide (disch:=first|omega|(simp only[lens]<;>omega)|decide) only [go_sem,Zn,Zm,simprocAttr]
  have r2:Zn 256 [Jd (F9 u z 2048)] 0 256=some (Jd (F9 u z 2048)):=by
   have:=Qj (l:=Jd (F9 u z 2048)) (by rw[Uu]; omega)
   rwa [Uu] at this
  have r3:Zn 256 [Jd (F9 u z 2048)] 0 256=some (Jd (F9 u z 2048)):=r2
  have w2:Z4 256 [Jd (Zex 0)] 0 (Jd (F9 u z 2048))=some [Jd (F9 u z 2048)]:=by
   have:=Xg (l:=Jd (Zex 0)) (l':=Jd (F9 u z 2048)) (by rw[Uu]; omega) (by rw[Uu,Uu])
   rwa [Uu] at this
  have Jf:=Vu Jf @y4 @y5 @g2 @a2 @r2 @w2 @Uu
  iterate 3 (first|apply Zk|apply Z0|refine Zq Hh Za Zj ?_)
  refine⟨_,_,Zj,rfl,fun m hm=>?_⟩
  simp (maxSteps:=9^6) +decide (disch:=first|omega|(simp only[lens]<;>omega)|decide) only [go_sem,Zn,Zm,simprocAttr,k2,k1]
 exact Zy.quiet c (by simp [V.flat,W.flat,bmB,Jd,C.flat]) hk
end
def xBm (args:List W) (h:Go.Ev.H):Option (V × Go.Ev.H):=match args with
 | [.c (.int .i64 (.ofNat u)),.c (.int .i64 (.ofNat z))]=>bif Nat.ble u z&&Nat.ble z 2048 then some (.w (.g (bmB u z)),h) else none
 | _=>none
noncomputable def x3:Kn:=fun f args h=>bif Nat.beq f 63 then xBm args h else bif Nat.beq f 197 then Z94 args h else bif Nat.beq f 93 then Z05 args h else none
section
variable (Hh:Hearts K Tryz.prog)
include Hh
theorem Z9z {args:List W} {h h':Go.Ev.H} {v:V} (e:xBm args h=some (v,h')):Zg 63 args h v h':=by
 unfold xBm at e
 split at e
 ·rename_i u z
  cases hb:(Nat.ble u z&&Nat.ble z 2048) with
  | false=>rw[hb] at e; cases e
  | true =>
   rw[hb] at e
   cases e
   simp only[Bool.and_eq_true] at hb
   exact Zpy Hh h u z (Nat.le_of_ble_eq_true hb.1) (Nat.le_of_ble_eq_true hb.2)
 ·cases e
theorem Zvw:Zev K Tryz.prog x3:=by
 intro f args h v h' e
 unfold x3 at e
 cases h1:Nat.beq f 63 with
 | true =>
  rw[h1] at e
  obtain rfl:=Nat.eq_of_beq_eq_true h1
  exact Z9z Hh e
 | false =>
  rw[h1] at e
  cases h2:Nat.beq f 197 with
  | true =>
   rw[h2] at e
   obtain rfl:=Nat.eq_of_beq_eq_true h2
   exact Z5l Hh e
  | false =>
   rw[h2] at e
   cases h3:Nat.beq f 93 with
   | true =>
    rw[h3] at e
    obtain rfl:=Nat.eq_of_beq_eq_true h3
    exact Z2z Hh e
   | false=>rw[h3] at e; cases e
end
def byt8 (l:List Nat):List C:=l.map fun (n:Nat)=>.int .u8 (n:Int)
def Rx:List C:=byt8 [2,0,1,0,1,0,0,0]++List.replicate 248 (.int .u8 0)
def Yct:List C:=byt8 [2,0,1,0,1,0,0,0]++List.replicate 56 (.int .u8 0)++byt8 [2,0,1,0,1,0,0,0]++List.replicate 184 (.int .u8 0)
def isT:Option Bool→Bool
 | some b=>b
 | none=>false
theorem Zpw {o:Option Bool} (h:isT o=true):o=some true:=by
 cases o with
 | none=>cases h
 | some b=>cases b with
  | false=>cases h
  | true=>rfl
noncomputable def Zvs:List C:=match Z4z (evX K x3 3000 (.call 61 [.g [.int .u32 1,.int .i64 0]] ⟨.nil,1⟩)) with
 | some (.tup [.g x,_])=>x
 | _=>[]
noncomputable def Zm4:Kn1:=fun args h=>match args with
 | [.g [.int .u32 s,.int .i64 z]]=>Y8 (decide (s=1)&&decide (z=0)) (some (.tup [.g Zvs,.c (.int .i64 0)],h))
 | _=>none
noncomputable def Zrv:Kn1:=fun args h=>match args with
 | [.c (.ptr p 0),.c (.int .i64 a),.g [.int .u8 k,.int .i64 l,.int .u32 g,.int .i64 s,.int .u32 p0,.int .u32 p1,.int .u32 p2,.int .u32 p3,.int .u32 p4,.int .u32 p5,.int .u32 p6,.int .u32 p7,.int .u32 p8,.int .u32 p9,.int .u32 p10,.int .u32 nx]]=>Y8 (decide (k=2)&&decide (l=1)&&decide (g=1)&&decide (s=0)&&decide (p0=0)&&decide (p1=0)&&decide (p2=0)&&decide (p3=0)&&decide (p4=0)&&decide (p5=0)&&decide (p6=0)&&decide (p7=0)&&decide (p8=0)&&decide (p9=0)&&decide (p10=0)&&decide (nx=0)) (match h.get p with
  | some (.row s [x] ro)=>Y8 (Nat.beq s 256&&!ro) (bif isT (Yx x zB)&&decide (a=0) then some (.w (.c (.int .i64 0)),h.put p (.row 256 [Rx] false)) else bif isT (Yx x Rx)&&decide (a=64) then some (.w (.c (.int .i64 0)),h.put p (.row 256 [Yct] false)) else none)
  | _=>none)
 | _=>none
theorem Ycm:Yx zB zB=some true:=by kernel_rfl
theorem Yce:Yx Rx Rx=some true:=by kernel_rfl
theorem Yck:Yx Rx zB=some false:=by kernel_rfl
theorem Yax:isT (some true)=true:=rfl
theorem Ya7:isT (some false)=false:=rfl
theorem Zx7:Zvs.length=256:=by kernel_rfl
theorem Zrx:Zvs.all C.flat=true:=by kernel_rfl
theorem Zke:Rx.length=256:=by kernel_rfl
theorem Zjg:Rx.all C.flat=true:=by kernel_rfl
attribute [go_sem] Zm4 Zrv Ycm Yce Yck Yax Ya7
section
variable (Hh:Hearts K Tryz.prog)
include Hh
theorem Zhu {args:List W} {h h':Go.Ev.H} {v:V} (e:Zm4 args h=some (v,h')):Zg 61 args h v h':=by
 unfold Zm4 at e
 split at e
 ·obtain⟨b,e⟩:=Zu.1 e
  cases e
  simp only[Bool.and_eq_true,decide_eq_true_eq] at b
  obtain⟨rfl,rfl⟩:=b
  exact Zy.closed fits Hh (Zvw Hh) gl (n:=3000) (by kernel_rfl) rfl (by kernel_rfl) h
 ·cases e
theorem Zv7 {args:List W} {h h':Go.Ev.H} {v:V} (e:Zrv args h=some (v,h')):Zg 64 args h v h':=by
 unfold Zrv at e
 split at e
 ·rename_i p a k l g s p0 p1 p2 p3 p4 p5 p6 p7 p8 p9 p10 nx
  obtain⟨b,e2⟩:=Zu.1 e
  clear e
  simp only[Bool.and_eq_true,decide_eq_true_eq] at b
  obtain⟨⟨⟨⟨⟨⟨⟨⟨⟨⟨⟨⟨⟨⟨⟨rfl,rfl⟩,rfl⟩,rfl⟩,rfl⟩,rfl⟩,rfl⟩,rfl⟩,rfl⟩,rfl⟩,rfl⟩,rfl⟩,rfl⟩,rfl⟩,rfl⟩,rfl⟩:=b
  split at e2
  ·rename_i s x ro heq
   obtain⟨q,e3⟩:=Zu.1 e2
   clear e2
   rw[Bool.and_eq_true] at q
   obtain⟨q1,q2⟩:=q
   cases b1:(isT (Yx x zB)&&decide (a=0)) with
   | true =>
    rw[b1] at e3
    cases e3
    rw[Bool.and_eq_true] at b1
    obtain rfl:=Nat.eq_of_beq_eq_true q1
    obtain rfl:ro=false:=by simpa using q2
    obtain rfl:=Zah (Zpw b1.1)
    obtain rfl:=of_decide_eq_true b1.2
    exact Zy.Zuy fits Hh (Zvw Hh) gl (n:=4000) (by kernel_rfl) rfl (by kernel_rfl) (by kernel_rfl) rfl h p heq
   | false =>
    rw[b1] at e3
    cases b2:(isT (Yx x Rx)&&decide (a=64)) with
    | true =>
     rw[b2] at e3
     cases e3
     rw[Bool.and_eq_true] at b2
     obtain rfl:=Nat.eq_of_beq_eq_true q1
     obtain rfl:ro=false:=by simpa using q2
     obtain rfl:=Zah (Zpw b2.1)
     obtain rfl:=of_decide_eq_true b2.2
     exact Zy.Zuy fits Hh (Zvw Hh) gl (n:=4000) (by kernel_rfl) rfl (by kernel_rfl) (by kernel_rfl) rfl h p heq
    | false=>rw[b2] at e3; cases e3
  ·cases e2
 ·cases e
end
end Go.Proofs.YtecakmodlkbnaaaGreatDoor
set_option maxRecDepth 100000
set_option maxHeartbeats 4000000
namespace Go.Proofs.YtecakmodlkbnaaaGreatDoor
open Go.Ev
theorem rs57:Tryz.f57.results.toList=[]:=rfl
attribute [go_sem] rs57
def Zdn (a b c:Nat):List C:=pgL (Gc (Fe (R4 a b c) 0 O0))
def Zju:C→Bool
 | .int _ _=>true
 | _=>false
def Z00 (L:List (List C)):Bool:=L.all fun x=>x.all Zju
theorem V5 {L:List (List C)} (h:Z00 L=true) {x:List C} (xi:x.all Zju=true) (i:Nat):Z00 (L.set i x)=true:=List.all_eq_true.2 fun y hy=>by
 rcases List.mem_or_eq_of_mem_set hy with h1|rfl
 ·exact List.all_eq_true.1 h y h1
 ·exact xi
theorem Zyy (n:Nat):Z00 (List.replicate n zB)=true:=List.all_eq_true.2 fun y hy=>by
 obtain rfl:=(List.mem_replicate.1 hy).2
 kernel_rfl
theorem Zra:∀ ns:List Nat,(pgL ns).all Zju=true
 | []=>rfl
 | n :: ns=>Zra ns
theorem Zvi (u s:Nat):(bmB u s).all Zju=true:=by simp [bmB,Jd,Zju]
theorem Zx9:Rx.all Zju=true:=by kernel_rfl
def allBy (L:List (List C)):Bool:=L.all Zdm
theorem N7 {L:List (List C)} (h:allBy L=true) {x:List C} (xi:Zdm x=true) (i:Nat):allBy (L.set i x)=true:=List.all_eq_true.2 fun y hy=>by
 rcases List.mem_or_eq_of_mem_set hy with h1|rfl
 ·exact List.all_eq_true.1 h y h1
 ·exact xi
theorem Zx4 (n:Nat):allBy (List.replicate n zB)=true:=List.all_eq_true.2 fun y hy=>by
 obtain rfl:=(List.mem_replicate.1 hy).2
 kernel_rfl
theorem Zz2 (u s:Nat):Zdm (bmB u s)=true:=by
 unfold Zdm bmB Jd
 rw[List.all_map]
 refine List.all_eq_true.2 fun t _=>?_
 show Nat.blt (byB (F9 u s 2048) t) 256=true
 exact Qm (Rl _ _)
theorem Z0v:Zdm Rx=true:=by kernel_rfl
structure Img (a b c d k:Nat) (L:List (List C)):Prop where
 len:L.length=2+d+a * b
 im:imB L=true
 bi:Z00 L=true
 de:L[1]? = some (Zdn a b c)
 bm:∀ j,j<k→L[2+d+j * b+1]? = some (bmB (if j=0 then 1 else 0) c)
 tb:∀ j r,j<a→2+r<b→L[2+d+j * b+2+r]? = some zB
 ab:allBy L=true
 bb:∀ j,j<k→L[2+d+j * b]? = some (bmB (2+c / 4) b)
theorem Zcu (u s:Nat):(bmB u s).length=256:=Uu _
theorem Qt (u s:Nat):(bmB u s).all C.flat=true:=by simp [bmB,Jd,C.flat]
theorem Img.step {a b c d k:Nat} {L:List (List C)} (I:Img a b c d k L) (hb:16≤b) (hk:k<a):Img a b c d (k+1) ((L.set (2+d+k * b) (bmB (2+c / 4) b)).set (2+d+k * b+1) (bmB (if k=0 then 1 else 0) c)):=by
 have h0:=I.len
 have hs:=Jp (b:=b) hk
 refine⟨by rw[List.length_set,List.length_set]; exact h0,Lx (Lx I.im (Zcu _ _) (Qt _ _) _) (Zcu _ _) (Qt _ _) _,V5 (V5 I.bi (Zvi _ _) _) (Zvi _ _) _,?_,fun j hj=>?_,fun j r hj hr=>?_,N7 (N7 I.ab (Zz2 _ _) _) (Zz2 _ _) _,fun j hj=>?_⟩
 ·rw[List.getElem?_set_ne (by omega),List.getElem?_set_ne (by omega)]
  exact I.de
 ·rcases Nat.lt_or_ge j k with h1|h1
  ·have:=Jp (b:=b) h1
   rw[List.getElem?_set_ne (by omega),List.getElem?_set_ne (by omega)]
   exact I.bm j h1
  ·obtain rfl:j=k:=by omega
   rw[List.getElem?_set_self (by rw[List.length_set]; omega)]
 ·have h1:j * b+2+r≠k * b∧j * b+2+r≠k * b+1:=by
   rcases Nat.lt_trichotomy j k with q|q|q
   ·have:=Jp (b:=b) q; omega
   ·subst q; omega
   ·have:=Jp (b:=b) q; omega
  rw[List.getElem?_set_ne (by omega),List.getElem?_set_ne (by omega)]
  exact I.tb j r hj hr
 ·rcases Nat.lt_or_ge j k with h1|h1
  ·have:=Jp (b:=b) h1
   rw[List.getElem?_set_ne (by omega),List.getElem?_set_ne (by omega)]
   exact I.bb j h1
  ·obtain rfl:j=k:=by omega
   rw[List.getElem?_set_ne (by omega),List.getElem?_set_self (by omega)]
structure Image (a b c d:Nat) (L:List (List C)):Prop where
 len:L.length=2+d+a * b
 im:imB L=true
 bi:Z00 L=true
 de:L[1]? = some (Zdn a b c)
 bm:∀ j,j<a→L[2+d+j * b+1]? = some (bmB (if j=0 then 1 else 0) c)
 ti:∀ j r,j<a→2+r<b→L[2+d+j * b+2+r]? = some (if j=0∧r=0 then Rx else zB)
 ab:allBy L=true
 bb:∀ j,j<a→L[2+d+j * b]? = some (bmB (2+c / 4) b)
theorem Img.last {a b c d:Nat} {L:List (List C)} (I:Img a b c d a L) (hb:16≤b) (ha:1≤a):Image a b c d (L.set (2+d+2) Rx):=by
 have h0:=I.len
 have h1:=Jp (b:=b) (show 0<a by omega)
 refine⟨by rw[List.length_set]; exact h0,Lx I.im Zke Zjg _,V5 I.bi Zx9 _,?_,fun j hj=>?_,fun j r hj hr=>?_,N7 I.ab Z0v _,fun j hj=>?_⟩
 ·rw[List.getElem?_set_ne (by omega)]; exact I.de
 ·have:j * b≠1:=by
   rcases Nat.eq_zero_or_pos j with rfl|q
   ·omega
   ·have:=Jp (b:=b) q; omega
  rw[List.getElem?_set_ne (by omega)]
  exact I.bm j hj
 ·rcases Nat.eq_zero_or_pos j with rfl|q
  ·rcases Nat.eq_zero_or_pos r with rfl|q
   ·rw[Nat.zero_mul,Nat.add_zero,List.getElem?_set_self (by omega),if_pos ⟨rfl,rfl⟩]
   ·rw[List.getElem?_set_ne (by omega),if_neg (by omega)]
    exact I.tb 0 r hj hr
  ·have:=Jp (b:=b) q
   rw[List.getElem?_set_ne (by omega),if_neg (by omega)]
   exact I.tb j r hj hr
 ·have:j * b≠2:=by
   rcases Nat.eq_zero_or_pos j with rfl|q
   ·omega
   ·have:=Jp (b:=b) q; omega
  rw[List.getElem?_set_ne (by omega)]
  exact I.bb j hj
theorem Image.tb {a b c d:Nat} {L:List (List C)} (I:Image a b c d L) (hb:16≤b) (j:Nat) (hj:j<a):L[2+d+j * b+2]? = some (if j=0 then Rx else zB):=by
 have:=I.ti j 0 hj (by omega)
 rw[Nat.add_zero] at this
 rw[this]
 by_cases h:j=0
 ·rw[if_pos ⟨h,rfl⟩,if_pos h]
 ·rw[if_neg (fun e=>h e.1),if_neg h]
noncomputable def Z9x:Kn1:=fun args h=>match args with
 | [.c (.int .i64 u),.c (.int .i64 z)]=>(Uf u).bind fun u=>(Uf z).bind fun z=>Y8 (decide (u≤z)&&decide (z≤2048)) (some (.w (.g (bmB u z)),h))
 | _=>none
noncomputable def xWr:Kn1:=fun args h=>match args with
 | [.c (.int .i64 z),.g x,.c (.int .i64 e),.c (.ptr _ 0),.c (.ptr q 0)]=>(Uf z).bind fun i=>match h.get q with
  | some (.row s [[.slice r 0 len w]] _)=>(match h.get r with
   | some (.row s2 L ro)=>Y8 (Nat.beq s 1&&Nat.beq w 256&&Nat.beq s2 256&&!ro&&decide (e=0)&&Nat.beq x.length 256&&x.all C.flat&&decide (i<len)&&Nat.beq L.length len&&imB L) (some (.tup [],h.put r (.row 256 (L.set i x) false)))
   | _=>none)
  | _=>none
 | _=>none
attribute [go_sem] Z9x xWr
section
variable (Hh:Hearts K Tryz.prog)
include Hh
theorem Zuf {args:List W} {h h':Go.Ev.H} {v:V} (e:Z9x args h=some (v,h')):Zg 63 args h v h':=by
 unfold Z9x at e
 split at e
 ·obtain⟨u,hu,e⟩:=Zo e
  obtain⟨z,hz,e⟩:=Zo e
  obtain⟨b,e⟩:=Zu.1 e
  simp only[Bool.and_eq_true,decide_eq_true_eq] at b
  cases e
  rw[Z9 hu,Z9 hz]
  exact Zpy Hh h u z b.1 b.2
 ·cases e
theorem Zh7 {args:List W} {h h':Go.Ev.H} {v:V} (e:xWr args h=some (v,h')):Zg 57 args h v h':=by
 unfold xWr at e
 split at e
 ·rename_i z x e0 q5 q
  obtain⟨i,hi,e⟩:=Zo e
  split at e
  ·rename_i s r len w ro heq
   split at e
   ·rename_i s2 L ro2 heq2
    obtain⟨b,e2⟩:=Zu.1 e
    clear e
    simp only[Bool.and_eq_true,decide_eq_true_eq,Bool.not_eq_true'] at b
    obtain⟨⟨⟨⟨⟨⟨⟨⟨⟨b1,b2⟩,b3⟩,rfl⟩,rfl⟩,b6⟩,xf⟩,il⟩,b9⟩,im⟩:=b
    obtain rfl:=Nat.eq_of_beq_eq_true b1
    obtain rfl:=Nat.eq_of_beq_eq_true b2
    obtain rfl:=Nat.eq_of_beq_eq_true b3
    have xl:=Nat.eq_of_beq_eq_true b6
    have Ll:=Nat.eq_of_beq_eq_true b9
    cases e2
    rw[Z9 hi]
    refine Zy.tidy ⟨Tryz.f57,Tryz.func57,by kernel_rfl,by decide⟩ fun tidy=>?_
    have l1:=tidy _ _ heq
    have l2:=tidy _ _ heq2
    obtain⟨y,hy⟩:∃ y,L[i]? = some y:=⟨_,List.getElem?_eq_getElem (by omega)⟩
    have yl:=(Zmm im (List.mem_of_getElem? hy)).1
    have wr:Z4 256 L (i * 256) x=some (L.set i x):=Zpe xl (by omega) hy yl
    obtain⟨v,h',c,rfl,hk⟩:∃ v h',Zg 57 [.c (.int .i64 (i:Int)),.g x,.c (.int .i64 0),.c (.ptr q5 0),.c (.ptr q 0)] h v h'∧v=.tup []∧∀ m,m<h.next→h'.get m=(h.put r (.row 256 (L.set i x) false)).get m:=by
     refine Yg Hh Tryz.f57 ?_
     have Jf:=U1 @heq @heq2 @wr @xl @Nat.zero_add
     repeat (first|apply Zk|apply Zw|apply Z0|refine Goes.Zi Y5 ?_|refine Zq Hh Za Y5 ?_)
     exact⟨_,_,Yn,rfl,fun m hm=>by exact Ry⟩
    refine c.settle ((R9.refl tidy).put l2 (Zl8 fun τ _=>?_)) (Zfr.flat rfl) hk
    exact Ub (fun l hl=>Ub (fun a ha=>C.Jl ha _) hl) (Zh4 (Lx im xl xf i))
   ·cases e
  ·cases e
 ·cases e
end
theorem ty134:K.types.get 134=some ti134:=by kernel_rfl
theorem sz134:ti134.size=2:=by rfl
theorem ag134:ti134.agg=true:=by rfl
theorem fo134_0:Zt K 134 0=some (0,ti36):=by kernel_rfl
theorem fo134_1:Zt K 134 1=some (1,ti3):=by kernel_rfl
theorem bu134 (ps:List (Nat × W)):Yo K 134 (some ps)=gW (Yd K 134 ps ti134.zero.cells):=by kernel_rfl
theorem ze134:ti134.zero=(.g ([.int .u32 0,.int .i64 0])):=by rfl
theorem by134:ti134.bytes=16:=by rfl
attribute [go_sem] ty37 sz37 ag37 de37 ze37 by37 eq37 ty39 sz39 ag39 fo39_0 fo39_1 fo39_2 fo39_3 fo39_4 fo39_5 bu39 ze39 by39 ty134 sz134 ag134 fo134_0 fo134_1 bu134 ze134 by134
noncomputable def q18 (p:List Nat):Code:=piece p (Uh Tryz.f18)
theorem rs18:Tryz.f18.results.toList=[.tmp 2,.tmp 3]:=rfl
attribute [go_sem] rs18
theorem Zi7 {a b c:Nat} (h:1≤a):(R4 a b c).length=a:=by
 rw[R4,List.length_cons,List.length_replicate]
 omega
theorem Zsf {a b c:Nat} (h:1≤c):(R4 a b c).all (Xy (b - 2 - c / 4) c)=true:=by
 refine List.all_eq_true.2 fun x hx=>?_
 rcases List.mem_cons.1 hx with rfl|hx
 ·simp only[Xy]
  rw[Nj (Nat.le_refl _),Nj (by omega),Nj (by omega)]
  rfl
 ·obtain rfl:=(List.mem_replicate.1 hx).2
  simp only[Xy]
  rw[Nj (Nat.le_refl _),Nj (Nat.le_refl _),Nj (by omega)]
  rfl
theorem Zlm (a b c:Nat):(Zdn a b c).length=256:=by
 rw[Zdn,Jy,Gc,Yh,Zdi]
 exact Q8
theorem Zim (a b c:Nat):(Zdn a b c).all C.flat=true:=Tc _
section
variable (Hh:Hearts K Tryz.prog)
include Hh
theorem Z9c {a b c d n N:Nat} (f:Ym a b c d=true) (hN:2+d+a * b=N):∀ (j k:Nat) (L:List (List C)) (ts:Zx) (h:Go.Ev.H),k+j=a→Img a b c d k L→h.get n=some (.row 4 [[.int .i64 (a:Int),.int .i64 (b:Int),.int .i64 (c:Int),.int .i64 (d:Int)]] false)→h.get (n+1)=some (.row 256 L false)→h.get (n+1+1)=some (.row 1 [[.slice (n+1) 0 N 256]] false) →
  Zh ts 1=.w (.c (.ptr n 0))→Zh ts 6=.w (.c (.fn 57 [] [some (n+1+1+1,0),some (n+1+1,0)]))→Zh ts 54=.w (.c (.int .i64 (a:Int)))→Zh ts 55=.w (.c (.int .i64 (k:Int))) →
  Ye 104 none (q18 [1,1,1,1,1,1,1,1,1,1,1,0,1,2]) [] ts h fun x ds' ts' h'=>x=.exit 0∧ds'=[]∧h'.next=h.next∧(∃ L',Img a b c d a L'∧h'.get (n+1)=some (.row 256 L' false))∧(∀ m,m≠n+1→h'.get m=h.get m)∧∀ s,s≤8→Zh ts' s=Zh ts s:=by
 obtain⟨g1,g2,g3,g4,g5,g6,g7,g8,g9,g10,g11⟩:=Zv f
 intro j
 induction j with
 | zero =>
  intro k L ts h hk I hg hL hs h1 h6 h54 h55
  obtain rfl:k=a:=by omega
  have Jf:=Yy @h54 @h55
  iterate 6 (first|apply Zk|apply Ux|apply Je|refine Goes.Zi Zj ?_|refine Zq Hh Za Zj ?_)
  refine⟨rfl,rfl,rfl,⟨L,I,hL⟩,fun _ _=>rfl,fun s hs=>?_⟩
  simp (decide:=true) only [Yz hs]
 | succ j ih =>
  intro k L ts h hk I hg hL hs h1 h6 h54 h55
  have ka:k<a:=by omega
  have Ll:L.length=N:=by rw[I.len,hN]
  have im:=I.im
  have st:=Jp (b:=b) ka
  have bx:=Zcu (2+c / 4) b
  have bxf:=Qt (2+c / 4) b
  have e1:((2+d+k * b:Nat):Int)+1=((2+d+k * b+1:Nat):Int):=rfl
  have e2:(2:Int)+((c / 4:Nat):Int)=((2+c / 4:Nat):Int):=rfl
  have e3:(k:Int)+1=((k+1:Nat):Int):=rfl
  have q1:Mk .i64 (c:Int) 4=some (.int .i64 ((c / 4:Nat):Int)):=Ea (b:=4) (by omega) (by omega)
  have i1:imB (L.set (2+d+k * b) (bmB (2+c / 4) b))=true:=Lx im bx bxf _
  have I2:=I.step g3 ka
  obtain⟨z,hz⟩:∃ z,2+d+k * b=z:=⟨_,rfl⟩
  rw[hz] at e1 i1 I2
  by_cases k0:k=0
  ·rw[if_pos k0] at I2
   have bl:=Zcu 1 c
   have bf:=Qt 1 c
   iterate 23 (first|apply Zk|apply Zw|apply Yt|apply Je|((first|apply Goes.Zi|apply Goes.ops2 fits Hh (EY (EY (EY Za (Dy Hh)) (Zuf Hh)) (Zh7 Hh))); · simp (maxSteps:=9^6) +decide (disch:=first|omega|(simp only[lens]<;>omega)|decide) only [go_sem,Zn,Zm,simprocAttr,f,hg,hL,hs,h1,h6,h54,h55,hz,e1,e2,e3,q1,Ll,im,i1,bx,bxf,bl,bf,List.length_set,List.map_cons,Sb,List.cons_append,read1]<;>rfl))
   show Ye 104 none (q18 [1,1,1,1,1,1,1,1,1,1,1,0,1,2]) _ _ _ _
   refine (ih (k+1) _ _ _ (by omega) I2 ?_ ?_ ?_ ?_ ?_ ?_ ?_).mono ?_
   ·rw[Ze (by omega),Ze (by omega)]; exact hg
   ·rw[Zz]
   ·rw[Ze (by omega),Ze (by omega)]; exact hs
   ·simp (decide:=true) only [Zf,reduceIte,h1]
   ·simp (decide:=true) only [Zf,reduceIte,h6]
   ·simp (decide:=true) only [Zf,reduceIte,h54]
   ·simp (decide:=true) only [Zf,reduceIte]<;>rfl
   rintro x ds' ts' h' ⟨r1,r2,r3,r4,r5,r6⟩
   refine⟨r1,r2,r3,r4,fun m hm=>(r5 m hm).trans (by rw[Ze hm,Ze hm]),fun s hs=>(r6 s hs).trans ?_⟩
   simp (decide:=true) only [Yz hs]
  ·rw[if_neg k0] at I2
   have bl:=Zcu 0 c
   have bf:=Qt 0 c
   iterate 23 (first|apply Zk|apply Zw|apply Yt|apply Je|((first|apply Goes.Zi|apply Goes.ops2 fits Hh (EY (EY (EY Za (Dy Hh)) (Zuf Hh)) (Zh7 Hh))); · simp (maxSteps:=9^6) +decide (disch:=first|omega|(simp only[lens]<;>omega)|decide) only [go_sem,Zn,Zm,simprocAttr,f,hg,hL,hs,h1,h6,h54,h55,hz,e1,e2,e3,q1,Ll,im,i1,bx,bxf,bl,bf,List.length_set,List.map_cons,Sb,List.cons_append,read1]<;>rfl))
   show Ye 104 none (q18 [1,1,1,1,1,1,1,1,1,1,1,0,1,2]) _ _ _ _
   refine (ih (k+1) _ _ _ (by omega) I2 ?_ ?_ ?_ ?_ ?_ ?_ ?_).mono ?_
   ·rw[Ze (by omega),Ze (by omega)]; exact hg
   ·rw[Zz]
   ·rw[Ze (by omega),Ze (by omega)]; exact hs
   ·simp (decide:=true) only [Zf,reduceIte,h1]
   ·simp (decide:=true) only [Zf,reduceIte,h6]
   ·simp (decide:=true) only [Zf,reduceIte,h54]
   ·simp (decide:=true) only [Zf,reduceIte]<;>rfl
   rintro x ds' ts' h' ⟨r1,r2,r3,r4,r5,r6⟩
   refine⟨r1,r2,r3,r4,fun m hm=>(r5 m hm).trans (by rw[Ze hm,Ze hm]),fun s hs=>(r6 s hs).trans ?_⟩
   simp (decide:=true) only [Yz hs]
end
end Go.Proofs.YtecakmodlkbnaaaGreatDoor
set_option maxRecDepth 100000
set_option maxHeartbeats 8000000
namespace Go.Proofs.YtecakmodlkbnaaaGreatDoor
open Go.Ev
theorem Img.start {a b c d:Nat} (S H:List C) (sl:S.length=256) (sf:S.all C.flat=true) (hl:H.length=256) (hf:H.all C.flat=true) (si:S.all Zju=true) (hi:H.all Zju=true) (sb:Zdm S=true) (hb':Zdm H=true) (hd:40≤d) (hb:16≤b):Img a b c d 0 ((((List.replicate (2+d+a * b) zB).set 0 S).set 1 (Zdn a b c)).set 2 H):=by
 refine⟨by simp only[List.length_set,List.length_replicate],Lx (Lx (Lx (Zuj _) sl sf _) (Zlm a b c) (Zim a b c) _) hl hf _,V5 (V5 (V5 (Zyy _) si _) (Zra _) _) hi _,?_,fun j hj=>by omega,fun j r hj hr=>?_,N7 (N7 (N7 (Zx4 _) sb _) (Qu _) _) hb' _,fun j hj=>by omega⟩
 ·rw[List.getElem?_set_ne (by omega),List.getElem?_set_self (by simp only[List.length_set,List.length_replicate]; omega)]
 ·have:=Jp (b:=b) hj
  rw[List.getElem?_set_ne (by omega),List.getElem?_set_ne (by omega),List.getElem?_set_ne (by omega),List.getElem?_replicate,if_pos (by omega)]
section
variable (Hh:Hearts K Tryz.prog)
include Hh
theorem Z79 {a b c d:Nat} (f:Ym a b c d=true) {h:Go.Ev.H} (hst:h.get 0=some Gf) (l0:0<h.next):∃ L,Image a b c d L∧Zg 18 [.g [.int .i64 (a:Int),.int .i64 (b:Int),.int .i64 (c:Int),.int .i64 (d:Int)]] h (.tup [.c (.slice h.next 0 (2+d+a * b) 256),.c (.int .i64 0)]) (h.new (.row 256 L false)):=by
 obtain⟨g1,g2,g3,g4,g5,g6,g7,g8,g9,g10,g11⟩:=Zv f
 obtain⟨N,hN⟩:∃ N,2+d+a * b=N:=⟨_,rfl⟩
 have ha:=Jp (b:=b) (show 0<a by omega)
 have hX:pgL (Gc (Fe (R4 a b c) 0 O0))=Zdn a b c:=rfl
 have xl:=Zlm a b c
 have xf:=Zim a b c
 have fl:=Zi7 (b:=b) (c:=c) g1
 have fm:=Zsf (a:=a) (b:=b) (c:=c) (by omega)
 obtain⟨S,hS⟩:∃ S,pgL (Zyx a b c d)=S:=⟨_,rfl⟩
 have sl:S.length=256:=by rw[←hS,Jy,Zzb]
 have sf:S.all C.flat=true:=by rw[←hS]; exact Tc _
 obtain⟨Hd,hH⟩:∃ x,Zvs=x:=⟨_,rfl⟩
 have hl:Hd.length=256:=by rw[←hH]; exact Zx7
 have hf:Hd.all C.flat=true:=by rw[←hH]; exact Zrx
 have si:S.all Zju=true:=by rw[←hS]; exact Zra _
 have hi:Hd.all Zju=true:=by rw[←hH]; kernel_rfl
 have I0:=Img.start (a:=a) (b:=b) (c:=c) (d:=d) S Hd sl sf hl hf si hi (by rw[←hS]; exact Qu _) (by rw[←hH]; kernel_rfl) g8 g3
 have fz:List.replicate 256 (C.int .u8 0)=zB:=rfl
 have zl:zB.length=256:=by kernel_rfl
 have zf:=Zut
 have im0:imB (List.replicate N zB)=true:=Zuj _
 have im1:imB ((List.replicate N zB).set 0 S)=true:=Lx im0 sl sf _
 have im2:imB (((List.replicate N zB).set 0 S).set 1 (Zdn a b c))=true:=Lx im1 xl xf _
 have rl:=Zke
 have rf:=Zjg
 rw[hN] at I0 ⊢
 obtain⟨v,h',cc,n',L,rfl,I,n1,n2,n3,hk⟩:∃ v h',Zg 18 [.g [.int .i64 (a:Int),.int .i64 (b:Int),.int .i64 (c:Int),.int .i64 (d:Int)]] h v h'∧∃ n' L,v=.tup [.c (.slice n' 0 N 256),.c (.int .i64 0)]∧Image a b c d L∧h.next≤n'∧n'<h'.next∧h'.get n'=some (.row 256 L false)∧∀ m,m<h.next→h'.get m=h.get m:=by
  refine Yg Hh Tryz.f18 ?_
  iterate 29 (first|apply Zk|apply Zw|apply Yt|((first|apply Goes.Zi|apply Goes.ops2 fits Hh (EY (EY (EY (EY (EY (EY (EY Za (Uy Hh)) (G6 Hh)) (Zvf Hh)) (Zh7 Hh)) (Zki Hh)) (Zgf Hh)) (Zhu Hh))); · simp (maxSteps:=9^6) +decide (disch:=first|omega|(simp only[lens]<;>omega)|decide) only [go_sem,Zm,simprocAttr,f,hst,hN,hX,xl,xf,fl,fm,hS,sl,sf,hH,hl,hf,fz,zl,zf,im0,im1,im2,rl,rf,rd4,List.length_set,List.length_replicate,List.map_cons,Sb,List.cons_append,read1,Yf,Uk,Y3]<;>rfl)|(apply Goes.drawn2 fits Hh (EY (EY (EY (EY (EY (EY (EY Za (Uy Hh)) (G6 Hh)) (Zvf Hh)) (Zh7 Hh)) (Zki Hh)) (Zgf Hh)) (Zhu Hh)) (by kernel_rfl); · simp (maxSteps:=9^6) +decide (disch:=first|omega|(simp only[lens]<;>omega)|decide) only [go_sem,Zm,simprocAttr,drG,f,hst,hN,hX,xl,xf,fl,fm,hS,sl,sf,hH,hl,hf,fz,zl,zf,im0,im1,im2,rl,rf,rd4,List.length_set,List.length_replicate,List.map_cons,Sb,List.cons_append,read1,Yf,Uk,Y3]<;>rfl))
  refine (Z9c Hh f hN a 0 _ _ _ (n:=h.next) (by omega) I0 ?_ ?_ ?_ ?_ ?_ ?_ ?_).mono ?_
  ·exact Yn
  ·exact Yn
  ·exact Yn
  ·simp (decide:=true) only [Zf,reduceIte]
  ·simp (decide:=true) only [Zf,reduceIte]
  ·simp (decide:=true) only [Zf,reduceIte]
  ·simp (decide:=true) only [Zf,reduceIte]<;>rfl
  rintro x ds' ts' h' ⟨rfl,rfl,e3,⟨L,I1,hL⟩,kp,tk⟩
  simp only[H.Zd,H.Zb] at e3
  have f1:Zh ts' 1=.w (.c (.ptr h.next 0)):=(tk 1 (by decide)).trans (by simp (decide:=true) only [Zf,reduceIte])
  have f3:Zh ts' 3=.w (.c (.int .i64 0)):=(tk 3 (by decide)).trans (by simp (decide:=true) only [Zf,reduceIte]<;>rfl)
  have f4:Zh ts' 4=.w (.c (.ptr (h.next+1+1) 0)):=(tk 4 (by decide)).trans (by simp (decide:=true) only [Zf,reduceIte])
  have f5:Zh ts' 5=.w (.c (.ptr (h.next+1+1+1) 0)):=(tk 5 (by decide)).trans (by simp (decide:=true) only [Zf,reduceIte])
  have f6:Zh ts' 6=.w (.c (.fn 57 [] [some (h.next+1+1+1,0),some (h.next+1+1,0)])):=(tk 6 (by decide)).trans (by simp (decide:=true) only [Zf,reduceIte])
  have f7:Zh ts' 7=.w (.c (.ptr (h.next+1+1+1+1) 0)):=(tk 7 (by decide)).trans (by simp (decide:=true) only [Zf,reduceIte])
  have k0:=(kp h.next (by omega)).trans (show _=some (.row 4 [[.int .i64 (a:Int),.int .i64 (b:Int),.int .i64 (c:Int),.int .i64 (d:Int)]] false) by exact Yn)
  have k2:=(kp (h.next+1+1) (by omega)).trans (show _=some (.row 1 [[.slice (h.next+1) 0 N 256]] false) by exact Yn)
  have k3:=(kp (h.next+1+1+1) (by omega)).trans (show _=some (.row 1 [[.int .i64 0]] false) by exact Yn)
  have k4:=(kp (h.next+1+1+1+1) (by omega)).trans (show _=some (.row 256 [Hd] false) by exact Yn)
  have kk:∀ m,m<h.next→h'.get m=h.get m:=fun m hm=>(kp m (by omega)).trans (by exact Yc)
  clear kp tk
  have i1:=I1.im
  have Ll:L.length=N:=by rw[I1.len,hN]
  have ac:1≤a * c:=Nat.mul_pos (by omega) (by omega)
  have t1:(1:Int).toNat - 1=0:=rfl
  have lst:=I1.last g3 g1
  obtain⟨z,hz⟩:∃ z,2+d+2=z:=⟨_,rfl⟩
  rw[hz] at lst
  have zN:z<N:=by omega
  have Jf:=Uq @f @f1 @f3 (Yu @f4 @f5 @f6 @f7 @k0 @k2 @k3 @k4 (Yu @hL @i1 @Ll @t1 @hz @fz @zl @zf (Yu @hl @rl @rf @rd4 @Nat.zero_div @Nat.zero_mul @Nat.zero_mod @Nat.add_zero @Nat.sub_self)))
  iterate 16 (first|apply Zk|apply Zw|apply Z0|refine Goes.Zi Ep ?_|refine Zq Hh (EY (EY (EY Za (Et Hh)) (Zv7 Hh)) (Zh7 Hh)) Ep ?_)
  refine⟨_,_,Yn,_,_,rfl,lst,by omega,?_,?_,fun m hm=>?_⟩
  ·simp only[H.Zd,H.Zb]<;>omega
  ·simp (discharger:=omega) only [H.get_put,if_neg,if_pos,if_true]
  ·refine Eq.trans ?_ (kk m hm)
   exact Yc
 rw[show N=N from rfl]
 exact⟨L,I,Zy.row cc n1 n3 rfl (Zh4 I.im) n2 hk⟩
end
end Go.Proofs.YtecakmodlkbnaaaGreatDoor
