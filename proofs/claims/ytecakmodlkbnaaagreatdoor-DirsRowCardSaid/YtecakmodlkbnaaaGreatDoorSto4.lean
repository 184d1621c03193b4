/- What Begin asks: revoked and changed blocks, if there are none; need. -/
import Derived.Test.YtecakmodlkbnaaaGreatDoorNew2
set_option linter.unusedSimpArgs false
set_option linter.unusedVariables false
set_option linter.unusedSectionVars false
set_option maxRecDepth 100000
set_option maxHeartbeats 4000000
namespace Go.Proofs.YtecakmodlkbnaaaGreatDoor
open Go.Ev
theorem rs73:Tryz.f73.results.toList=[.tmp 4]:=rfl
theorem rs24:Tryz.f24.results.toList=[.tmp 4]:=rfl
theorem rs125:Tryz.f125.results.toList=[.tmp 4]:=rfl
theorem rs74:Tryz.f74.results.toList=[.tmp 2]:=rfl
theorem rs75:Tryz.f75.results.toList=[.tmp 2]:=rfl
theorem rs166:Tryz.f166.results.toList=[.tmp 2]:=rfl
theorem rs126:Tryz.f126.results.toList=[.tmp 2]:=rfl
theorem rs25:Tryz.f25.results.toList=[.tmp 6,.tmp 7]:=rfl
attribute [go_sem] rs73 rs24 rs125 rs74 rs75 rs166 rs126 rs25
noncomputable def Ztj:Kn1:=fun args h=>match args with
 | [.c .snil]=>some (.tup [],h)
 | _=>none
noncomputable def Z7z:Kn1:=fun args h=>match args with
 | [.c (.ptr r 0),.c (.int .u32 _)]=>(Vg h r).bind fun m=>Y8 (Gy h m) (some (.w (.c .snil),h))
 | _=>none
noncomputable def Zef:Kn1:=fun args h=>match args with
 | [.c (.ptr t 0)]=>(Gn h t).bind fun X=>(Vg h X.rv).bind fun m=>Y8 (Gy h m) (some (.w (.c .snil),h))
 | _=>none
noncomputable def Zeh:Kn1:=fun args h=>match args with
 | [.c (.ptr t 0)]=>(Gn h t).bind fun X=>Y8 (Gy h X.ch) (some (.w (.c .snil),h))
 | _=>none
noncomputable def Zsm:Kn1:=fun args h=>match args with
 | [.c (.map m)]=>some (.w (.c (.fn 201 [] [some (h.next,0)])),h.new (.row 1 [[.map m]] false))
 | _=>none
noncomputable def Zmy:Kn1:=fun args h=>match args with
 | [.c (.fn g [] [some (a,0)])]=>Y8 (K.keys.contains g) (match h.get a with
  | some (.row sz [[.map n]] _)=>Y8 (Nat.beq sz 1) ((getM h n).bind fun l=>match Ld (Oe l) with
   | some []=>some (.w (.c .snil),h)
   | some (k :: ks)=>Y8 (Nat.ble (k :: ks).length 1000000) (some (.w (.c (.slice h.next 0 (k :: ks).length 1)),h.new (.row 1 ((k :: ks).map fun i=>[.int .i64 i]) false)))
   | none=>none)
  | _=>none)
 | _=>none
noncomputable def Zz4:Kn1:=fun args h=>match args with
 | [.c (.map m)]=>Y8 (Gy h m) (some (.w (.c .snil),h))
 | _=>none
def Zj7 (a b:Int):Option Int:=bif decide (0<a)&&decide (a≤2048)&&decide (0≤b)&&decide (b≤2048) then some (a+(a+30 - 1) / 30+(b+60 - 1) / 60+1) else none
theorem Zbh {a b n:Int} (e:Zj7 a b=some n):0<a∧a≤2048∧0≤b∧b≤2048∧n=a+(a+30 - 1) / 30+(b+60 - 1) / 60+1:=by
 unfold Zj7 at e
 cases q:(decide (0<a)&&decide (a≤2048)&&decide (0≤b)&&decide (b≤2048)) with
 | false=>rw[q] at e; cases e
 | true =>
  rw[q] at e
  cases e
  simp only[Bool.and_eq_true,decide_eq_true_eq] at q
  exact⟨q.1.1.1,q.1.1.2,q.1.2,q.2,rfl⟩
noncomputable def Zy0:Kn1:=fun args h=>match args with
 | [.c (.int .i64 a),.c (.int .i64 n)]=>Y8 (decide (0≤a)&&decide (a≤4096)&&decide (1≤n)&&decide (n≤4096)) (some (.w (.c (.int .i64 ((a+n - 1) / n))),h))
 | _=>none
noncomputable def Z3i:Kn1:=fun args h=>match args with
 | [.c (.int .i64 a),.c (.int .i64 b)]=>(Zj7 a b).bind fun n=>some (.w (.c (.int .i64 n)),h)
 | _=>none
noncomputable def Zzx:Kn1:=fun args h=>match args with
 | [.c (.ptr s 0),.c (.int .i64 a),.c (.int .i64 b)]=>(Br h s).bind fun S=>(Gn h S.tx).bind fun X=>(Vg h X.rv).bind fun m=>(Zj7 a b).bind fun n=>Y8 (Gy h m&&Gy h X.ch) (some (.tup [.c (.int .i64 n),.c (.int .i64 b)],h))
 | _=>none
noncomputable def Zly:Kn1:=fun args h=>match args with
 | [.c (.map m)]=>match h.get m with
  | some (.map es)=>some (.w (.c (.map h.next)),h.new (.map es))
  | _=>none
 | _=>none
noncomputable def Zlv:Kn1:=fun args h=>match args with
 | [.c (.map m)]=>match h.get m with
  | some (.map es)=>some (.w (.c (.map h.next)),h.new (.map es))
  | _=>none
 | _=>none
attribute [go_sem] Ztj Z7z Zef Zeh Zsm Zmy Zz4 Zy0 Z3i Zzx Zly Zlv
theorem Z8e:K.keys.contains 201=true:=by kernel_rfl
theorem Z5v:Y7 K 70 (.c .snil)=true:=by kernel_rfl
theorem Z8b:Ld (Oe [])=some []:=rfl
theorem Z4q:Qd []=some []:=rfl
attribute [go_sem] Z8e Z5v Z8b Z4q
theorem Zrs (E:Task→Option Out) (ts:Zx) (h:Go.Ev.H) (t:TypeId) (x:Operand):Ug K E ts h (.range t x)=(match De K t with|some _=>Zc3 h (Z6 K ts x)|none=>none):=rfl
theorem Zyq (E:Task→Option Out) (ts:Zx) (h:Go.Ev.H) (x:Operand):Ug K E ts h (.next x false)=Zd5 h (Zep h (Z6 K ts x)):=rfl
attribute [go_sem] Zrs Zyq Zc3 Zd5 Zep
noncomputable def x00:Kn:=fun _ _ _=>none
theorem Z12:Zev K Tryz.prog x00:=fun _ _ _ _ _ e=>by cases e
section
variable (Hh:Hearts K Tryz.prog)
include Hh
theorem Zll {args:List W} {h h':Go.Ev.H} {v:V} (e:Ztj args h=some (v,h')):Zg 164 args h v h':=by
 unfold Ztj at e
 split at e
 ·cases e
  exact Zy.closed fits Hh Z12 gl (n:=1000) (by kernel_rfl) rfl rfl h
 ·cases e
theorem Zzu {args:List W} {h h':Go.Ev.H} {v:V} (e:Zy0 args h=some (v,h')):Zg 73 args h v h':=by
 unfold Zy0 at e
 split at e
 ·obtain⟨b,e⟩:=Zu.1 e
  simp only[Bool.and_eq_true,decide_eq_true_eq] at b
  obtain⟨⟨⟨b1,b2⟩,b3⟩,b4⟩:=b
  cases e
  rename_i a n
  obtain⟨x,rfl⟩:=Int.eq_ofNat_of_zero_le b1
  obtain⟨m,rfl⟩:=Int.eq_ofNat_of_zero_le (show 0≤n by omega)
  have q:=Ea (a:=x+m - 1) (b:=m) (by omega) (by omega)
  rw[show ((x+m - 1:Nat):Int)=(x:Int)+m - 1 by omega] at q
  have q2:(((x+m - 1) / m:Nat):Int)=((x:Int)+m - 1) / m:=by
   rw[Int.natCast_ediv,show ((x+m - 1:Nat):Int)=(x:Int)+m - 1 by omega]
  rw[q2] at q
  refine fnG Hh Tryz.f73 ?_
  have Jf:=@q
  repeat (first|apply Zk|apply Z0|refine Zq Hh Za Zj ?_)
  exact Zc
 ·cases e
theorem Zph {args:List W} {h h':Go.Ev.H} {v:V} (e:Z3i args h=some (v,h')):Zg 24 args h v h':=by
 unfold Z3i at e
 split at e
 ·obtain⟨n,hn,e⟩:=Zo e
  obtain⟨a0,a1,b0,b1,rfl⟩:=Zbh hn
  cases e
  rename_i a b
  have d1:decide (a > 2048)=false:=decide_eq_false (by omega)
  have d2:decide (b > 2048)=false:=decide_eq_false (by omega)
  have d3:decide (a<0)=false:=decide_eq_false (by omega)
  have d4:decide (b<0)=false:=decide_eq_false (by omega)
  have d5:(a == 0)=false:=Ee (by omega)
  refine fnG Hh Tryz.f24 ?_
  have Jf:=U1 @d1 @d2 @d3 @d4 @d5
  iterate 4 (first|apply Zk|refine Zq Hh Za Zj ?_)
  refine Goes.ops2 fits Hh Za (by
   iterate 22 (refine Zbg Zj ?_)
   exact Zbt) ?_
  iterate 3 (first|apply Zk|apply Zw|refine Goes.Zi Zj ?_)
  refine Goes.ops2 fits Hh (EY Za (Zzu Hh)) (by
   iterate 9 (refine Zbg Zj ?_)
   exact Zbt) ?_
  apply Z0
  exact Zc
 ·cases e
theorem Zhl {f:FuncId} {args:List W} {h h':Go.Ev.H} {v:V} (e:Eb K E0 f args h=some (.val v h')):Zg f args h v h':=by
 have T:=Le (P:=Tryz.prog) fits Hh Za (Q7 fits Za)
 exact T.call f args h v h' e
theorem Zg8 {args:List W} {h h':Go.Ev.H} {v:V} (e:Zmy args h=some (v,h')):Zg 165 args h v h':=by
 refine Zhl Hh ?_
 have e1:Eb K E0 165 args h=Mj K h args:=by kernel_rfl
 rw[e1]
 unfold Zmy at e
 split at e
 ·rename_i g a
  obtain⟨b,e⟩:=Zu.1 e
  split at e
  ·rename_i n ro hg
   obtain⟨b1,e⟩:=Zu.1 e
   obtain rfl:=Nat.eq_of_beq_eq_true b1
   obtain⟨l,hl,e⟩:=Zo e
   have hl:=getM_some hl
   have r1:read1 1 [[C.map n]] 0=some (.map n):=rfl
   simp only[Mj,b,cond_true,hg,r1,Zcm,hl]
   split at e
   ·rename_i hk
    cases e
    rw[hk]
    rfl
   ·rename_i k ks hk
    obtain⟨b2,e⟩:=Zu.1 e
    cases e
    rw[hk]
    show (bif Nat.ble (k :: ks).length 1000000 then _ else none)=_
    rw[b2]
    rfl
   ·cases e
  ·cases e
 ·cases e
theorem Zg9 {args:List W} {h h':Go.Ev.H} {v:V} (e:Zly args h=some (v,h')):Zg 132 args h v h':=by
 unfold Zly at e
 split at e
 ·split at e
  ·rename_i es he
   cases e
   refine Zhl Hh ?_
   have e1:∀ args,Eb K E0 132 args h=Lt h args:=fun args=>by kernel_rfl
   rw[e1]
   simp only[Lt,he]
  ·cases e
 ·cases e
theorem Zhs {args:List W} {h h':Go.Ev.H} {v:V} (e:Zlv args h=some (v,h')):Zg 133 args h v h':=by
 unfold Zlv at e
 split at e
 ·split at e
  ·rename_i es he
   cases e
   refine Zhl Hh ?_
   have e1:∀ args,Eb K E0 133 args h=Lt h args:=fun args=>by kernel_rfl
   rw[e1]
   simp only[Lt,he]
  ·cases e
 ·cases e
theorem Zyd {args:List W} {h h':Go.Ev.H} {v:V} (e:Zsm args h=some (v,h')):Zg 166 args h v h':=by
 unfold Zsm at e
 split at e
 ·cases e
  refine fnG Hh Tryz.f166 ?_
  repeat (first|apply Zk|apply Z0|refine Zq Hh Za Rw ?_)
  exact Zc
 ·cases e
theorem Zgh {args:List W} {h h':Go.Ev.H} {v:V} (e:Z7z args h=some (v,h')):Zg 125 args h v h':=by
 unfold Z7z at e
 split at e
 ·rename_i r q
  obtain⟨m,hr,e⟩:=Zo e
  have hr:=Oz hr
  obtain⟨b,e⟩:=Zu.1 e
  have hm:=Y6 b
  cases e
  refine Zy.tidy ⟨Tryz.f125,Tryz.func125,by kernel_rfl,by decide⟩ fun tidy=>?_
  have l1:=tidy _ _ hr
  have l2:=tidy _ _ hm
  refine Gt rfl ?_
  refine Yg Hh Tryz.f125 ?_
  repeat (first|apply Zk|apply Yt|apply Je|apply Zw|apply Ux|apply Z0|((first|apply Goes.Zi|apply Goes.ops2 fits Hh (EY (EY Za (Zk3 Hh)) (Zll Hh))); · simp (maxSteps:=9^6) +decide (disch:=first|omega|(simp only[lens]<;>omega)|decide) only [go_sem,Zn,Zm,simprocAttr,hr,hm,read1,Zc3,Zd5,Zep]<;>rfl))
  exact⟨_,_,Zc,rfl,fun j hj=>by exact Yc⟩
 ·cases e
theorem Zmi {args:List W} {h h':Go.Ev.H} {v:V} (e:Zef args h=some (v,h')):Zg 74 args h v h':=by
 unfold Zef at e
 split at e
 ·rename_i t
  obtain⟨X,ht,e⟩:=Zo e
  have ht:=Y4 ht
  obtain⟨m,hr,e⟩:=Zo e
  have hr:=Oz hr
  obtain⟨b,e⟩:=Zu.1 e
  have hm:=Y6 b
  cases e
  refine fnG Hh Tryz.f74 ?_
  have Jf:=Jb @ht @hr @hm
  repeat (first|apply Zk|apply Zw|apply Z0|refine Goes.Zi Yq ?_|refine Zq Hh (EY (EY Za (Gr Hh)) (Zgh Hh)) Yq ?_|refine Ed Hh (EY (EY Za (Gr Hh)) (Zgh Hh)) Z32 ?_)
  exact Zc
 ·cases e
theorem Z2s {args:List W} {h h':Go.Ev.H} {v:V} (e:Zz4 args h=some (v,h')):Zg 126 args h v h':=by
 unfold Zz4 at e
 split at e
 ·rename_i m
  obtain⟨b,e⟩:=Zu.1 e
  have hm:=Y6 b
  cases e
  refine Zy.tidy ⟨Tryz.f126,Tryz.func126,by kernel_rfl,by decide⟩ fun tidy=>?_
  have l2:=tidy _ _ hm
  refine Gt rfl ?_
  refine Yg Hh Tryz.f126 ?_
  have Jf:=@hm
  repeat (first|apply Zk|apply Z0|refine Zq Hh (EY (EY Za (Zyd Hh)) (Zg8 Hh)) Yq ?_)
  exact⟨_,_,Zc,rfl,fun j hj=>by exact Yc⟩
 ·cases e
theorem Zmh {args:List W} {h h':Go.Ev.H} {v:V} (e:Zeh args h=some (v,h')):Zg 75 args h v h':=by
 unfold Zeh at e
 split at e
 ·rename_i t
  obtain⟨X,ht,e⟩:=Zo e
  have ht:=Y4 ht
  obtain⟨b,e⟩:=Zu.1 e
  have hm:=Y6 b
  cases e
  refine fnG Hh Tryz.f75 ?_
  have Jf:=Yy @ht @hm
  repeat (first|apply Zk|apply Zw|apply Z0|refine Goes.Zi Yq ?_|refine Zq Hh (EY (EY Za (Gr Hh)) (Z2s Hh)) Yq ?_)
  exact Zc
 ·cases e
theorem Zz7 {args:List W} {h h':Go.Ev.H} {v:V} (e:Zzx args h=some (v,h')):Zg 25 args h v h':=by
 unfold Zzx at e
 split at e
 ·rename_i s a b
  obtain⟨S,hs,e⟩:=Zo e
  have hs:=Jc hs
  obtain⟨X,ht,e⟩:=Zo e
  have ht:=Y4 ht
  obtain⟨m,hr,e⟩:=Zo e
  have hr:=Oz hr
  obtain⟨n,hn,e⟩:=Zo e
  obtain⟨b,e⟩:=Zu.1 e
  cases e
  simp only[Bool.and_eq_true,decide_eq_true_eq] at b
  obtain⟨b1,b2⟩:=b
  have hm:=Y6 b1
  have hc:=Y6 b2
  obtain⟨a0,a1,r0,r1,_⟩:=Zbh hn
  refine fnG Hh Tryz.f25 ?_
  have Jf:=M8 @hs @ht @hr @hm @hc @hn @Int.zero_add
  repeat (first|apply Zk|apply Z0|refine Zq Hh (EY (EY (EY Za (Zmi Hh)) (Zmh Hh)) (Zph Hh)) Sk ?_)
  exact Zc
 ·cases e
end
noncomputable def q8 (p:List Nat):Code:=piece p (Uh Tryz.f8)
theorem rs80:Tryz.f80.results.toList=[.cell 4 156]:=rfl
theorem rs28:Tryz.f28.results.toList=[.tmp 6]:=rfl
theorem rs8:Tryz.f8.results.toList=[.tmp 6]:=rfl
attribute [go_sem] rs80 rs28 rs8
noncomputable def Fu (h:Go.Ev.H):Go.Ev.H:=((((((h.new (.row 4 [[.mnil,.mnil,.mnil,.pnil]] false)).new (.map [])).new (.row 1 [[.map (h.next+1)]] false)).new (.map [])).new (.map [])).new (.map [])).put h.next (.row 4 [[.map (h.next+1+1+1),.map (h.next+1+1+1+1),.map (h.next+1+1+1+1+1),.ptr (h.next+1+1) 0]] false)
noncomputable def Zsp:Kn1:=fun args h=>match args with
 | [.c (.ptr t 0),.c (.int .u32 _)]=>(Gn h t).bind fun X=>(Vg h X.rv).bind fun m=>Y8 (Gy h m&&Gy h X.ch&&Gy h X.od&&Gy h X.fr) (some (.w (.g [.map (h.next+1+1+1),.map (h.next+1+1+1+1),.map (h.next+1+1+1+1+1),.ptr (h.next+1+1) 0]),Fu h))
 | _=>none
noncomputable def Zfq (h:Go.Ev.H) (t:Nat) (X:Tx) (c r:Int):Go.Ev.H :=
 (Fu ((((((h.put t (.row 13 [txL { X with op:=true }] false)).put t (.row 13 [txL { X with op:=true,cr:=c }] false)).put t (.row 13 [txL { X with op:=true,cr:=c,rk:=r }] false)).new (.map [])).put t (.row 13 [txL { X with op:=true,cr:=c,rk:=r,to:=.map h.next }] false)))).put t (.row 13 [txL { X with op:=true,cr:=c,rk:=r,to:=.map h.next,b1:=.map (h.next+1+1+1+1),b2:=.map (h.next+1+1+1+1+1),b3:=.map (h.next+1+1+1+1+1+1),b4:=.ptr (h.next+1+1+1) 0 }] false)
noncomputable def Znd:Kn1:=fun args h=>match args with
 | [.c (.ptr t 0),.c (.int .i64 c),.c (.int .i64 r)]=>(Gn h t).bind fun X=>(Vg h X.rv).bind fun m=>Y8 (!X.op&&decide (0≤c)&&decide (0≤r)&&Gy h m&&Gy h X.ch&&Gy h X.od&&Gy h X.fr) (some (.w (.c (.int .i64 0)),Zfq h t X c r))
 | _=>none
noncomputable def Rn (h:Go.Ev.H) (s:Nat) (S:Stt):Go.Ev.H:=((((h.new (.map [])).put s (.row 8 [stL { S with dt:=h.next }] false)).new (.map [])).put s (.row 8 [stL { S with dt:=h.next,gv:=h.next+1 }] false)).put s (.row 8 [stL { S with dt:=h.next,gv:=h.next+1,kn:=false }] false)
noncomputable def Xa:Kn1:=fun args h=>match args with
 | [.c (.ptr s 0),.c (.int .i64 c),.c (.int .i64 r)]=>(Br h s).bind fun S=>(Gn h S.tx).bind fun X=>(Fx h S.gd).bind fun G=>(Vg h X.rv).bind fun m=>(Zj7 c r).bind fun n=>Y8 (decide (n≤(G.jr:Int) - 1)&&!X.op&&decide (X.sq≤2147483648)&&Gy h m&&Gy h X.ch&&Gy h X.od&&Gy h X.fr) (some (.w (.c (.int .i64 0)),Zfq (Rn h s S) S.tx X c r))
 | _=>none
attribute [go_sem] Zsp Znd Xa
theorem Zpu:Y7 K 70 (.c .snil)=true:=by kernel_rfl
attribute [go_sem] Zpu
section
variable (Hh:Hearts K Tryz.prog)
include Hh
theorem Zk1 {args:List W} {h h':Go.Ev.H} {v:V} (e:Zsp args h=some (v,h')):Zg 80 args h v h':=by
 unfold Zsp at e
 split at e
 ·rename_i t q
  obtain⟨X,ht,e⟩:=Zo e
  have ht:=Y4 ht
  obtain⟨m,hr,e⟩:=Zo e
  have hr:=Oz hr
  obtain⟨b,e⟩:=Zu.1 e
  cases e
  simp only[Bool.and_eq_true] at b
  obtain⟨⟨⟨b1,b2⟩,b3⟩,b4⟩:=b
  have hm:=Y6 b1
  have hc:=Y6 b2
  have ho:=Y6 b3
  have hf:=Y6 b4
  refine Zy.tidy ⟨Tryz.f80,Tryz.func80,by kernel_rfl,by decide⟩ fun tidy=>?_
  have l1:=tidy _ _ ht
  have l2:=tidy _ _ hr
  have l3:=tidy _ _ hm
  have l4:=tidy _ _ hc
  have l5:=tidy _ _ ho
  have l6:=tidy _ _ hf
  refine fnG Hh Tryz.f80 ?_
  have Jf:=Sy @ht @hr @hm @hc @ho @hf
  repeat (first|apply Zk|apply Yt|apply Je|apply Zw|apply Ux|apply Z0|refine Goes.Zi Zvl ?_|refine Zq Hh (EY (EY (EY (EY Za (Zeg Hh)) (Zgh Hh)) (Zg9 Hh)) (Zhs Hh)) Zvl ?_|refine Ed Hh (EY (EY (EY (EY Za (Zeg Hh)) (Zgh Hh)) (Zg9 Hh)) (Zhs Hh)) Z1h ?_)
  simp (maxSteps:=9^6) +decide (disch:=first|omega|(simp only[lens]<;>omega)|decide) only [go_sem,Zn,Zm,simprocAttr,Fu]<;>rfl
 ·cases e
set_option maxHeartbeats 1000000 in
theorem Zrz {args:List W} {h h':Go.Ev.H} {v:V} (e:Znd args h=some (v,h')):Zg 28 args h v h':=by
 unfold Znd at e
 split at e
 ·rename_i t c r
  obtain⟨X,ht,e⟩:=Zo e
  have ht:=Y4 ht
  obtain⟨m,hr,e⟩:=Zo e
  have hr:=Oz hr
  obtain⟨b,e⟩:=Zu.1 e
  cases e
  simp only[Bool.and_eq_true,decide_eq_true_eq,Bool.not_eq_true'] at b
  obtain⟨⟨⟨⟨⟨⟨bo,c0⟩,r0⟩,b1⟩,b2⟩,b3⟩,b4⟩:=b
  have hm:=Y6 b1
  have hc:=Y6 b2
  have ho:=Y6 b3
  have hf:=Y6 b4
  refine Zy.tidy ⟨Tryz.f28,Tryz.func28,by kernel_rfl,by decide⟩ fun tidy=>?_
  have l1:=tidy _ _ ht
  have l2:=tidy _ _ hr
  have l3:=tidy _ _ hm
  have l4:=tidy _ _ hc
  have l5:=tidy _ _ ho
  have l6:=tidy _ _ hf
  have n2:X.rv≠t:=fun e1=>by rw[e1,ht] at hr; cases hr
  have n3:m≠t:=fun e1=>by rw[e1,ht] at hm; cases hm
  have n4:X.ch≠t:=fun e1=>by rw[e1,ht] at hc; cases hc
  have n5:X.od≠t:=fun e1=>by rw[e1,ht] at ho; cases ho
  have n6:X.fr≠t:=fun e1=>by rw[e1,ht] at hf; cases hf
  refine fnG Hh Tryz.f28 ?_
  repeat (first|apply Zk|apply Yt|apply Zw|apply Z0|((first|apply Goes.Zi|apply Goes.ops2 fits Hh (EY (EY Za (Gr Hh)) (Zk1 Hh))); · simp (maxSteps:=9^6) +decide (disch:=first|omega|(simp only[lens]<;>omega)|decide) only [go_sem,Zn,Zm,simprocAttr,ht,bo,hr,hm,hc,ho,hf,read1,Z4,Fu]<;>rfl)|(apply Goes.drawn2 fits Hh (EY (EY Za (Gr Hh)) (Zk1 Hh)) (by kernel_rfl); · simp (maxSteps:=9^6) +decide (disch:=first|omega|(simp only[lens]<;>omega)|decide) only [go_sem,Zn,Zm,simprocAttr,drG,ht,bo,hr,hm,hc,ho,hf,read1,Z4,Fu]<;>rfl))
  simp (maxSteps:=9^6) +decide (disch:=first|omega|(simp only[lens]<;>omega)|decide) only [go_sem,Zn,Zm,simprocAttr,Zfq,Fu]<;>rfl
 ·cases e
end
section
variable (Hh:Hearts K Tryz.prog)
include Hh
set_option maxHeartbeats 4000000 in
theorem Zia {args:List W} {h h':Go.Ev.H} {v:V} (e:Xa args h=some (v,h')):Zg 8 args h v h':=by
 unfold Xa at e
 split at e
 ·rename_i s c r
  obtain⟨S,hs,e⟩:=Zo e
  have hs:=Jc hs
  obtain⟨X,ht,e⟩:=Zo e
  have ht:=Y4 ht
  obtain⟨G,hg,e⟩:=Zo e
  obtain⟨hg,fb⟩:=J4 hg
  obtain⟨m,hr,e⟩:=Zo e
  have hr:=Oz hr
  obtain⟨n,hn,e⟩:=Zo e
  obtain⟨b,e⟩:=Zu.1 e
  cases e
  simp only[Bool.and_eq_true,decide_eq_true_eq,Bool.not_eq_true'] at b
  obtain⟨⟨⟨⟨⟨⟨bn,bo⟩,sq⟩,b1⟩,b2⟩,b3⟩,b4⟩:=b
  have hm:=Y6 b1
  have hc:=Y6 b2
  have ho:=Y6 b3
  have hf:=Y6 b4
  have F:=Zv fb
  obtain⟨g1,g2,g3,g4,g5,g6,g7,g8,g9,g10,g11⟩:=F
  refine Zy.tidy ⟨Tryz.f8,Tryz.func8,by kernel_rfl,by decide⟩ fun tidy=>?_
  have l1:=tidy _ _ ht
  have l2:=tidy _ _ hr
  have l3:=tidy _ _ hm
  have l4:=tidy _ _ hc
  have l5:=tidy _ _ ho
  have l6:=tidy _ _ hf
  have l7:=tidy _ _ hs
  have l8:=tidy _ _ hg
  have n1:S.tx≠s:=fun e1=>by rw[e1,hs] at ht; cases ht
  have n2:X.rv≠s:=fun e1=>by rw[e1,hs] at hr; cases hr
  have n3:m≠s:=fun e1=>by rw[e1,hs] at hm; cases hm
  have n4:X.ch≠s:=fun e1=>by rw[e1,hs] at hc; cases hc
  have n5:X.od≠s:=fun e1=>by rw[e1,hs] at ho; cases ho
  have n6:X.fr≠s:=fun e1=>by rw[e1,hs] at hf; cases hf
  obtain⟨c0,c1,r0,r1,nn⟩:=Zbh hn
  refine fnG Hh Tryz.f8 ?_
  repeat (first|apply Zk|apply Zw|apply Z0|((first|apply Goes.Zi|apply Goes.ops2 fits Hh (EY (EY (EY (EY (EY (EY (EY Za (Ox Hh)) (Z07 Hh)) (Zen Hh)) (Zph Hh)) (Zz7 Hh)) (Eu Hh)) (Zrz Hh))); · simp (maxSteps:=9^6) +decide (disch:=first|omega|(simp only[lens]<;>omega)|decide) only [go_sem,Zn,Zm,simprocAttr,hn,hs,ht,bo,hg,gdL,fb,hr,hm,hc,ho,hf,read1]<;>rfl))
  simp (maxSteps:=9^6) +decide (disch:=first|omega|(simp only[lens]<;>omega)|decide) only [go_sem,Zn,Zm,simprocAttr,Rn]<;>rfl
 ·cases e
end
theorem rs90:Tryz.f90.results.toList=[.cell 4 99,.tmp 5]:=rfl
theorem rs36:Tryz.f36.results.toList=[.cell 4 99,.tmp 5]:=rfl
attribute [go_sem] rs90 rs36
theorem Zdt {c:Nat} {z:Int} {h h':Go.Ev.H} {v:V} (e:Xo [.c (.ptr c 0),.c (.int .i64 z)] h=some (v,h')):∃ X D l,h.get c=some (.row 3 [ckL X] false)∧h.get X.d=some (.row 6 [dkL D] false)∧0<D.n∧D.n≤2048∧0≤z∧z<(D.n:Int)∧h.get X.m=some (.map (Oe l)) ∧
    ((∃ y,Jt z l=some y∧y.length=257∧y.all C.flat=true∧v=.tup [.g (y.take 256),.c (.int .i64 0)]∧h'=h) ∨
     (Jt z l=none∧Bg l=true∧∃ x L ro,h.get D.q=some (.row 256 L ro)∧L[z.toNat]? = some x∧x.length=256∧x.all C.flat=true∧v=.tup [.g x,.c (.int .i64 0)]∧h'=h.put X.m (.map (Oe (Dw z (x++[.bool false]) l))))):=by
  unfold Xo at e
  obtain⟨X,hc,e⟩:=Zo e
  have hc:=Xh hc
  obtain⟨D,hd,e⟩:=Zo e
  obtain⟨hd,n0,n1⟩:=O1 hd
  obtain⟨b,e⟩:=Zu.1 e
  simp only[Bool.and_eq_true,decide_eq_true_eq] at b
  obtain⟨z0,z1⟩:=b
  obtain⟨l,hm,e⟩:=Zo e
  have hm:=getM_some hm
  refine⟨X,D,l,hc,hd,n0,n1,z0,z1,hm,?_⟩
  split at e
  · rename_i y hl
    obtain⟨b,e⟩:=Zu.1 e
    rw[Bool.and_eq_true] at b
    cases e
    exact .inl ⟨y,hl,Nat.eq_of_beq_eq_true b.1,b.2,rfl,rfl⟩
  · rename_i hl
    obtain⟨fl,e⟩:=Zu.1 e
    obtain⟨x,hx,e⟩:=Zo e
    obtain⟨L,ro,hq,hL,xl,xf⟩:=Zeo hx
    cases e
    exact .inr ⟨hl,fl,x,L,ro,hq,hL,xl,xf,rfl,rfl⟩
noncomputable def Rb:Kn1:=fun args h=>match args with
  | [.c (.ptr s 0),.c (.int .i64 z)]=>(Br h s).bind fun S=>(getM h S.dt).bind fun ld=>match Jt z ld with
    | some y=>Y8 (Nat.beq y.length 257&&y.all C.flat) (some (.tup [.g (y.drop 1),.c (.int .i64 0)],h))
    | none=>(Gn h S.tx).bind fun X=>(getM h X.ch).bind fun lc=>match Jt z lc with
      | some y=>Y8 (Nat.beq y.length 256&&y.all C.flat) (some (.tup [.g y,.c (.int .i64 0)],h))
      | none=>(Fx h S.gd).bind fun G=>Y8 (Zi3 h G.li) (Xo [.c (.ptr G.ca 0),.c (.int .i64 z)] h)
  | _=>none
noncomputable def Zfm:Kn1:=fun args h=>match args with
  | [.c (.ptr s 0),.c (.int .i64 z)]=>(Br h s).bind fun S=>(Fx h S.gd).bind fun G=>Y8 (decide (z<9223372036854775808)) (bif Bp G.gr G.sz G.ino G.jr z then Rb [.c (.ptr s 0),.c (.int .i64 z)] h else some (.tup [.g zB,.c (.int .i64 2)],h))
  | _=>none
attribute [go_sem] Rb Zfm
theorem Zcs {s:Nat} {z:Int} {h h':Go.Ev.H} {v:V} (e:Rb [.c (.ptr s 0),.c (.int .i64 z)] h=some (v,h')):∃ S ld,h.get s=some (.row 8 [stL S] false)∧h.get S.dt=some (.map (Oe ld)) ∧
    ((∃ y,Jt z ld=some y∧y.length=257∧y.all C.flat=true∧v=.tup [.g (y.drop 1),.c (.int .i64 0)]∧h'=h) ∨
     (Jt z ld=none∧∃ X lc,h.get S.tx=some (.row 13 [txL X] false)∧h.get X.ch=some (.map (Oe lc)) ∧
      ((∃ y,Jt z lc=some y∧y.length=256∧y.all C.flat=true∧v=.tup [.g y,.c (.int .i64 0)]∧h'=h) ∨
       (Jt z lc=none∧∃ G,h.get S.gd=some (.row 9 [gdL G] false)∧Ym G.gr G.sz G.ino G.jr=true∧Zi3 h G.li=true∧Xo [.c (.ptr G.ca 0),.c (.int .i64 z)] h=some (v,h'))))):=by
  unfold Rb at e
  obtain⟨S,hs,e⟩:=Zo e
  have hs:=Jc hs
  obtain⟨ld,hd,e⟩:=Zo e
  have hd:=getM_some hd
  refine⟨S,ld,hs,hd,?_⟩
  split at e
  · rename_i y hl
    obtain⟨b,e⟩:=Zu.1 e
    rw[Bool.and_eq_true] at b
    cases e
    exact .inl ⟨y,hl,Nat.eq_of_beq_eq_true b.1,b.2,rfl,rfl⟩
  · rename_i hl
    obtain⟨X,ht,e⟩:=Zo e
    have ht:=Y4 ht
    obtain⟨lc,hc,e⟩:=Zo e
    have hc:=getM_some hc
    refine .inr ⟨hl,X,lc,ht,hc,?_⟩
    split at e
    · rename_i y hl
      obtain⟨b,e⟩:=Zu.1 e
      rw[Bool.and_eq_true] at b
      cases e
      exact .inl ⟨y,hl,Nat.eq_of_beq_eq_true b.1,b.2,rfl,rfl⟩
    · rename_i hl
      obtain⟨G,hg,e⟩:=Zo e
      obtain⟨hg,fb⟩:=J4 hg
      obtain⟨b,e⟩:=Zu.1 e
      exact .inr ⟨hl,G,hg,fb,b,e⟩
theorem Zle {l:List C} (n:Nat) (h:l.all C.flat=true):(l.drop n).all C.flat=true:=List.all_eq_true.2 fun x hx=>List.all_eq_true.1 h x (List.mem_of_mem_drop hx)
theorem Zlo {l:List C} (n:Nat) (h:l.all C.flat=true):(l.take n).all C.flat=true:=List.all_eq_true.2 fun x hx=>List.all_eq_true.1 h x (List.mem_of_mem_take hx)
theorem Fh {l:List C} {z:Int} (h:l.all C.flat=true):V.flat (.tup [.g l,.c (.int .i64 z)])=true:=by
  show (l.all C.flat&&true)=true
  rw[h]; rfl
section
variable (Hh:Hearts K Tryz.prog)
include Hh
set_option maxHeartbeats 2000000 in
theorem Vy {args:List W} {h h':Go.Ev.H} {v:V} (e:Rb args h=some (v,h')):Zg 90 args h v h':=by
  have e0:=e
  unfold Rb at e
  split at e
  · rename_i s z
    clear e
    refine Zy.tidy ⟨Tryz.f90,Tryz.func90,by kernel_rfl,by decide⟩ fun tidy=>?_
    obtain⟨S,ld,hs,hd,⟨y,hl,yl,yf,rfl,rfl⟩|⟨hl,X,lc,ht,hc,⟨y,hl2,yl,yf,rfl,rfl⟩|⟨hl2,G,hg,fb,vl,e⟩⟩⟩:=Zcs e0
    · have l1:=tidy _ _ hs
      have l2:=tidy _ _ hd
      have rr:Zn 257 [y] 1 256=some (y.drop 1):=by
        rw[Zru (by omega),List.take_of_length_le (by rw[List.length_drop]; omega)]
      have tl:(y.drop 1).length=256:=by rw[List.length_drop]; omega
      obtain⟨v,h2,c,rfl,hk⟩:∃ v h2,Zg 90 [.c (.ptr s 0),.c (.int .i64 z)] h' v h2∧v=.tup [.g (y.drop 1),.c (.int .i64 0)]∧∀ m,m<h'.next→h2.get m=h'.get m:=by
        refine Yg Hh Tryz.f90 ?_
        have Jf:=Uq @hs @hd @hl @rr
        repeat (first|apply Zk|apply Zw|apply Z0|refine Goes.Zi Uo ?_|refine Zq Hh (EY (EY (EY (EY Za (Zdc Hh)) (Zcp Hh)) (Zb2 Hh)) (Zaq Hh)) Uo ?_)
        exact⟨_,_,(by have Jf:=Uq @hs @hd @hl @rr; exact Z5),rfl,fun m hm=>by exact Ry⟩
      exact c.quiet (Fh (Zle 1 yf)) hk
    · have l1:=tidy _ _ hs
      have l2:=tidy _ _ hd
      have l3:=tidy _ _ ht
      have l4:=tidy _ _ hc
      obtain⟨v,h2,c,rfl,hk⟩:∃ v h2,Zg 90 [.c (.ptr s 0),.c (.int .i64 z)] h' v h2∧v=.tup [.g y,.c (.int .i64 0)]∧∀ m,m<h'.next→h2.get m=h'.get m:=by
        refine Yg Hh Tryz.f90 ?_
        have Jf:=M8 @hs @hd @hl @ht @hc @hl2 @yf
        repeat (first|apply Zk|apply Zw|apply Z0|refine Goes.Zi Uo ?_|refine Zq Hh (EY (EY (EY (EY Za (Zdc Hh)) (Zcp Hh)) (Zb2 Hh)) (Zaq Hh)) Uo ?_)
        exact⟨_,_,(by have Jf:=Jb @hs @hd @hl; exact Z5),rfl,fun m hm=>by exact Ry⟩
      exact c.quiet (Fh yf) hk
    · obtain⟨k1,k2,k3,k4,k5,k6,ro,hli⟩:=Xr vl
      obtain⟨Y,D,l,hck,hdk,n0,n1,z0,z1,hm,⟨y,hl3,yl,yf,rfl,rfl⟩|⟨hl3,fl,x,L,ro,hq,hL,xl,xf,rfl,rfl⟩⟩:=Zdt e
      · have l1:=tidy _ _ hs
        have l2:=tidy _ _ hd
        have l3:=tidy _ _ ht
        have l4:=tidy _ _ hc
        have l5:=tidy _ _ hg
        have l6:=tidy _ _ hck
        have l7:=tidy _ _ hdk
        have l8:=tidy _ _ hm
        have l9:=tidy _ _ hli
        have tl:(y.take 256).length=256:=by rw[List.length_take]; omega
        obtain⟨v,h2,c,rfl,hk⟩:∃ v h2,Zg 90 [.c (.ptr s 0),.c (.int .i64 z)] h' v h2∧v=.tup [.g (y.take 256),.c (.int .i64 0)]∧∀ m,m<h'.next→h2.get m=h'.get m:=by
          refine Yg Hh Tryz.f90 ?_
          repeat (first|apply Zk|apply Zw|apply Z0|((first|apply Goes.Zi|apply Goes.ops2 fits Hh (EY (EY (EY (EY Za (Zdc Hh)) (Zcp Hh)) (Zb2 Hh)) (Zaq Hh))); · simp (maxSteps:=9^6) +decide (disch:=first|omega|(simp only[lens]<;>omega)|decide) only [go_sem,Zm,simprocAttr,hs,hd,hl,ht,hc,hl2,hg,gdL,fb,hli,hck,hdk,hm,hl3,yf,zB,read1]<;>rfl))
          exact⟨_,_,Yn,rfl,fun m hm=>by exact Ry⟩
        exact c.quiet (Fh (Zlo 256 yf)) hk
      · have l1:=tidy _ _ hs
        have l2:=tidy _ _ hd
        have l3:=tidy _ _ ht
        have l4:=tidy _ _ hc
        have l5:=tidy _ _ hg
        have l6:=tidy _ _ hck
        have l7:=tidy _ _ hdk
        have l8:=tidy _ _ hm
        have l9:=tidy _ _ hli
        have l10:=tidy _ _ hq
        obtain⟨v,h2,c,rfl,hk⟩:∃ v h2,Zg 90 [.c (.ptr s 0),.c (.int .i64 z)] h v h2∧v=.tup [.g x,.c (.int .i64 0)]∧∀ m,m<h.next→h2.get m=(h.put Y.m (.map (Oe (Dw z (x++[.bool false]) l)))).get m:=by
          refine Yg Hh Tryz.f90 ?_
          repeat (first|apply Zk|apply Zw|apply Z0|((first|apply Goes.Zi|apply Goes.ops2 fits Hh (EY (EY (EY (EY Za (Zdc Hh)) (Zcp Hh)) (Zb2 Hh)) (Zaq Hh))); · simp (maxSteps:=9^6) +decide (disch:=first|omega|(simp only[lens]<;>omega)|decide) only [go_sem,Zm,simprocAttr,hs,hd,hl,ht,hc,hl2,hg,gdL,fb,hli,hck,hdk,hm,hl3,hq,hL,xl,xf,fl,zB,read1]<;>rfl))
          exact⟨_,_,Yn,rfl,fun m hm=>by exact Ry⟩
        refine c.settle ((R9.refl tidy).put l8 (Nr (Dh ?_ fl))) (Zfr.flat (Fh xf)) hk
        rw[List.all_append,xf]; rfl
  · cases e
end
theorem Z44:∀ {S S':Stt},stL S=stL S'→S=S'
 | ⟨a,b,c,d,e,f⟩,⟨a',b',c',d',e',f'⟩,h=>by
  have h':[C.ptr a 0,.ptr b 0,.pnil,.map c,.map d,e,.bool f,.bool false]=[C.ptr a' 0,.ptr b' 0,.pnil,.map c',.map d',e',.bool f',.bool false]:=h
  cases h'
  rfl
theorem Z5x:∀ {G G':Gd},gdL G=gdL G'→G=G'
 | ⟨a,b,c,d,e,f,g,i,j⟩,⟨a',b',c',d',e',f',g',i',j'⟩,h=>by
  have h':[C.int .i64 (a:Int),.int .i64 (b:Int),.int .i64 (c:Int),.int .i64 (d:Int),.int .u8 e,.ptr f 0,.ptr g 0,.ptr i 0,.ptr j 0]=[C.int .i64 (a':Int),.int .i64 (b':Int),.int .i64 (c':Int),.int .i64 (d':Int),.int .u8 e',.ptr f' 0,.ptr g' 0,.ptr i' 0,.ptr j' 0]:=h
  simp only[List.cons.injEq,C.int.injEq,C.ptr.injEq,and_true,true_and,Int.ofNat_inj] at h'
  obtain⟨rfl,rfl,rfl,rfl,rfl,rfl,rfl,rfl,rfl⟩:=h'
  rfl
section
variable (Hh:Hearts K Tryz.prog)
include Hh
set_option maxHeartbeats 4000000 in
theorem Dq {args:List W} {h h':Go.Ev.H} {v:V} (e:Zfm args h=some (v,h')):Zg 36 args h v h':=by
 unfold Zfm at e
 split at e
 ·rename_i s z
  obtain⟨S0,hs0,e⟩:=Zo e
  obtain⟨G0,hg0,e⟩:=Zo e
  obtain⟨bz,e⟩:=Zu.1 e
  have z1:=of_decide_eq_true bz
  have hs:=Jc hs0
  obtain⟨hg,fb⟩:=J4 hg0
  refine Zy.tidy ⟨Tryz.f36,Tryz.func36,by kernel_rfl,by decide⟩ fun tidy=>?_
  have l1:=tidy _ _ hs
  have l5:=tidy _ _ hg
  rcases hb:Bp G0.gr G0.sz G0.ino G0.jr z with _|_
  ·rw[hb] at e
   cases e
   obtain⟨v,h2,c,rfl,hk⟩:∃ v h2,Zg 36 [.c (.ptr s 0),.c (.int .i64 z)] h v h2∧v=.tup [.g zB,.c (.int .i64 2)]∧∀ m,m<h.next→h2.get m=h.get m:=by
    refine Yg Hh Tryz.f36 ?_
    repeat (first|apply Zk|apply Zw|apply Z0|((first|apply Goes.Zi|apply Goes.ops2 fits Hh (EY (EY (EY Za (Ox Hh)) (Ny Hh)) (Vy Hh))); · simp (maxSteps:=9^6) +decide (disch:=first|omega|(simp only[lens]<;>omega)|decide) only [go_sem,Zm,simprocAttr,hs,hg,gdL,fb,hb,zB,read1]<;>rfl))
    exact⟨_,_,(by simp (maxSteps:=9^6) +decide (disch:=first|omega|(simp only[lens]<;>omega)|decide) only [go_sem,Zm,simprocAttr,zB]<;>rfl),rfl,fun m hm=>by exact Ry⟩
   exact c.quiet (Fh Zut) hk
  ·rw[hb] at e
   have e:Rb [.c (.ptr s 0),.c (.int .i64 z)] h=some (v,h'):=e
   obtain⟨S,ld,hs2,hd,q⟩:=Zcs e
   have eS:S0=S:=by
    rw[hs] at hs2
    have e1:stL S0=stL S:=by simpa using hs2
    exact Z44 e1
   subst eS
   have l2:=tidy _ _ hd
   obtain⟨y,hl,yl,yf,rfl,rfl⟩|⟨hl,X,lc,ht,hc,⟨y,hl2,yl,yf,rfl,rfl⟩|⟨hl2,G,hg2,fb2,vl,e⟩⟩:=q
   ·have tl:(y.drop 1).length=256:=by rw[List.length_drop]; omega
    obtain⟨v,h2,c,rfl,hk⟩:∃ v h2,Zg 36 [.c (.ptr s 0),.c (.int .i64 z)] h' v h2∧v=.tup [.g (y.drop 1),.c (.int .i64 0)]∧∀ m,m<h'.next→h2.get m=h'.get m:=by
     refine Yg Hh Tryz.f36 ?_
     repeat (first|apply Zk|apply Zw|apply Z0|((first|apply Goes.Zi|apply Goes.ops2 fits Hh (EY (EY (EY Za (Ox Hh)) (Ny Hh)) (Vy Hh))); · simp (maxSteps:=9^6) +decide (disch:=first|omega|(simp only[lens]<;>omega)|decide) only [go_sem,Zm,simprocAttr,hs,hg,gdL,fb,hb,hd,hl,yl,yf,read1]<;>rfl))
     exact⟨_,_,Yn,rfl,fun m hm=>by exact Ry⟩
    exact c.quiet (Fh (Zle 1 yf)) hk
   ·have l3:=tidy _ _ ht
    have l4:=tidy _ _ hc
    obtain⟨v,h2,c,rfl,hk⟩:∃ v h2,Zg 36 [.c (.ptr s 0),.c (.int .i64 z)] h' v h2∧v=.tup [.g y,.c (.int .i64 0)]∧∀ m,m<h'.next→h2.get m=h'.get m:=by
     refine Yg Hh Tryz.f36 ?_
     repeat (first|apply Zk|apply Zw|apply Z0|((first|apply Goes.Zi|apply Goes.ops2 fits Hh (EY (EY (EY Za (Ox Hh)) (Ny Hh)) (Vy Hh))); · simp (maxSteps:=9^6) +decide (disch:=first|omega|(simp only[lens]<;>omega)|decide) only [go_sem,Zm,simprocAttr,hs,hg,gdL,fb,hb,hd,hl,ht,hc,hl2,yl,yf,read1]<;>rfl))
     exact⟨_,_,Yn,rfl,fun m hm=>by exact Ry⟩
    exact c.quiet (Fh yf) hk
   ·have eG:G0=G:=by
     rw[hg] at hg2
     have e1:gdL G0=gdL G:=by simpa using hg2
     exact Z5x e1
    subst eG
    obtain⟨k1,k2,k3,k4,k5,k6,ro,hli⟩:=Xr vl
    obtain⟨Y,D,l,hck,hdk,n0,n1,z0,z2,hm,⟨y,hl3,yl,yf,rfl,rfl⟩|⟨hl3,fl,x,L,ro,hq,hL,xl,xf,rfl,rfl⟩⟩:=Zdt e
    ·have l3:=tidy _ _ ht
     have l4:=tidy _ _ hc
     have l6:=tidy _ _ hck
     have l7:=tidy _ _ hdk
     have l8:=tidy _ _ hm
     have l9:=tidy _ _ hli
     have l10:=tidy _ _ hg2
     have tl:(y.take 256).length=256:=by rw[List.length_take]; omega
     obtain⟨v,h2,c,rfl,hk⟩:∃ v h2,Zg 36 [.c (.ptr s 0),.c (.int .i64 z)] h' v h2∧v=.tup [.g (y.take 256),.c (.int .i64 0)]∧∀ m,m<h'.next→h2.get m=h'.get m:=by
      refine Yg Hh Tryz.f36 ?_
      repeat (first|apply Zk|apply Zw|apply Z0|((first|apply Goes.Zi|apply Goes.ops2 fits Hh (EY (EY (EY Za (Ox Hh)) (Ny Hh)) (Vy Hh))); · simp (maxSteps:=9^6) +decide (disch:=first|omega|(simp only[lens]<;>omega)|decide) only [go_sem,Zm,simprocAttr,hs,hg2,gdL,fb,fb2,hb,hd,hl,ht,hc,hl2,hli,hck,hdk,hm,hl3,yl,yf,zB,read1]<;>rfl))
      exact⟨_,_,Yn,rfl,fun m hm=>by exact Ry⟩
     exact c.quiet (Fh (Zlo 256 yf)) hk
    ·have l3:=tidy _ _ ht
     have l4:=tidy _ _ hc
     have l6:=tidy _ _ hck
     have l7:=tidy _ _ hdk
     have l8:=tidy _ _ hm
     have l9:=tidy _ _ hli
     have l10:=tidy _ _ hg2
     have l11:=tidy _ _ hq
     obtain⟨v,h2,c,rfl,hk⟩:∃ v h2,Zg 36 [.c (.ptr s 0),.c (.int .i64 z)] h v h2∧v=.tup [.g x,.c (.int .i64 0)]∧∀ m,m<h.next→h2.get m=(h.put Y.m (.map (Oe (Dw z (x++[.bool false]) l)))).get m:=by
      refine Yg Hh Tryz.f36 ?_
      repeat (first|apply Zk|apply Zw|apply Z0|((first|apply Goes.Zi|apply Goes.ops2 fits Hh (EY (EY (EY Za (Ox Hh)) (Ny Hh)) (Vy Hh))); · simp (maxSteps:=9^6) +decide (disch:=first|omega|(simp only[lens]<;>omega)|decide) only [go_sem,Zm,simprocAttr,hs,hg2,gdL,fb,fb2,hb,hd,hl,ht,hc,hl2,hli,hck,hdk,hm,hl3,hq,hL,xl,xf,fl,zB,read1]<;>rfl))
      exact⟨_,_,Yn,rfl,fun m hm=>by exact Ry⟩
     refine c.settle ((R9.refl tidy).put l8 (Nr (Dh ?_ fl))) (Zfr.flat (Fh xf)) hk
     rw[List.all_append,xf]; rfl
 ·cases e
end
theorem rs43:Tryz.f43.results.toList=[.tmp 6]:=rfl
attribute [go_sem] rs43
theorem Zqr {t:Nat} {z:Int} {x:List C} {h h':Go.Ev.H} {v:V} (e:Zg6 [.c (.ptr t 0),.c (.int .i64 z),.g x] h=some (v,h')):∃ X to lt lc lf m,h.get t=some (.row 13 [txL X] false)∧X.to=.map to∧h.get to=some (.map (Oe lt))∧h.get X.ch=some (.map (Oe lc))∧h.get X.fr=some (.map (Oe lf))∧h.get X.rv=some (.row 1 [[.map m]] false)∧h.get m=some (.map []) ∧
  X.op=true∧0≤z∧(match Jt z lt with|none=>decide ((lt.length:Int)<X.cr)|some []=>true|some (_ :: _)=>false)=true∧x.length=256∧x.all C.flat=true∧Bg lt=true∧Bg lc=true∧Bg lf=true ∧
  Nat.beq to X.ch=false∧Nat.beq to X.fr=false∧Nat.beq X.ch X.fr=false∧Nat.beq to m=false∧Nat.beq X.ch m=false∧Nat.beq X.fr m=false∧Nat.beq to t=false∧Nat.beq X.ch t=false∧Nat.beq X.fr t=false∧Nat.beq to X.rv=false∧Nat.beq X.ch X.rv=false∧Nat.beq X.fr X.rv=false ∧
  v=.w (.c (.int .i64 0))∧h'=((h.put to (.map (Oe (Dw z [] lt)))).put X.ch (.map (Oe (Dw z x lc)))).put X.fr (.map (Oe (Zii z lf))):=by
 unfold Zg6 at e
 obtain⟨X,ht,e⟩:=Zo e
 have ht:=Y4 ht
 obtain⟨to,hto,e⟩:=Zo e
 have hto:=Zom hto
 obtain⟨lt,hlt,e⟩:=Zo e
 have hlt:=getM_some hlt
 obtain⟨lc,hlc,e⟩:=Zo e
 have hlc:=getM_some hlc
 obtain⟨lf,hlf,e⟩:=Zo e
 have hlf:=getM_some hlf
 obtain⟨m,hr,e⟩:=Zo e
 have hr:=Oz hr
 obtain⟨b,e⟩:=Zu.1 e
 cases e
 simp only[Bool.and_eq_true,Bool.not_eq_true'] at b
 obtain⟨⟨⟨⟨⟨⟨⟨⟨⟨⟨⟨⟨⟨⟨⟨⟨⟨⟨⟨⟨bo,z0⟩,bm⟩,bc⟩,bx⟩,xf⟩,f1⟩,f2⟩,f3⟩,c1⟩,c2⟩,c3⟩,c4⟩,c5⟩,c6⟩,c7⟩,c8⟩,c9⟩,c10⟩,c11⟩,c12⟩:=b
 exact⟨X,to,lt,lc,lf,m,ht,hto,hlt,hlc,hlf,hr,Y6 bm,bo,of_decide_eq_true z0,bc,Nat.eq_of_beq_eq_true bx,xf,f1,f2,f3,c1,c2,c3,c4,c5,c6,c7,c8,c9,c10,c11,c12,rfl,rfl⟩
noncomputable def Zs0 (s:Nat) (S:Stt) (z:Int) (x:List C) (h:Go.Ev.H):Option (V × Go.Ev.H):=(getM h S.dt).bind fun _=>(getM h S.gv).bind fun _=>Y8 (C.flat S.bs) (Zg6 [.c (.ptr S.tx 0),.c (.int .i64 z),.g x] (h.put s (.row 8 [stL { S with kn:=false }] false)))
noncomputable def Zpq:Kn1:=fun args h=>match args with
 | [.c (.ptr s 0),.c (.int .i64 z),.g x]=>(Br h s).bind fun S=>(Gn h S.tx).bind fun X=>(Fx h S.gd).bind fun G=>Y8 (X.op&&decide (z<9223372036854775808)&&Bp G.gr G.sz G.ino G.jr z) (Zs0 s S z x h)
 | _=>none
theorem Z8k {b:Nat} {S:Stt} (l2:S.gd<b) (l3:S.tx<b) (l4:S.dt<b) (l5:S.gv<b) (fb:C.flat S.bs=true) (k:Bool):Zx6 b (.row 8 [stL { S with kn:=k }] false):=by
 refine Zl8 fun τ hτ=>?_
 show [[C.ptr (τ S.gd) 0,.ptr (τ S.tx) 0,.pnil,.map (τ S.dt),.map (τ S.gv),S.bs.ren τ,.bool k,.bool false]]=_
 rw[hτ _ l2,hτ _ l3,hτ _ l4,hτ _ l5,C.Jl fb]
 rfl
section
variable (Hh:Hearts K Tryz.prog)
include Hh
set_option maxHeartbeats 4000000 in
theorem Mo {args:List W} {h h':Go.Ev.H} {v:V} (e:Zpq args h=some (v,h')):Zg 43 args h v h':=by
 unfold Zpq at e
 split at e
 ·rename_i s z x
  obtain⟨S,hs,e⟩:=Zo e
  have hs:=Jc hs
  obtain⟨X,ht,e⟩:=Zo e
  have ht:=Y4 ht
  obtain⟨G,hg,e⟩:=Zo e
  obtain⟨hg,fb⟩:=J4 hg
  obtain⟨b,e⟩:=Zu.1 e
  simp only[Bool.and_eq_true,decide_eq_true_eq] at b
  obtain⟨⟨bo,z1⟩,bou⟩:=b
  refine Zy.tidy ⟨Tryz.f43,Tryz.func43,by kernel_rfl,by decide⟩ fun tidy=>?_
  unfold Zs0 at e
  obtain⟨ldt,hdt,e⟩:=Zo e
  have hdt:=getM_some hdt
  obtain⟨lgv,hgv,e⟩:=Zo e
  have hgv:=getM_some hgv
  obtain⟨fbs,e⟩:=Zu.1 e
  have l1:=tidy _ _ hs
  have k2:=tidy _ _ hg
  have k3:=tidy _ _ ht
  have k4:=tidy _ _ hdt
  have k5:=tidy _ _ hgv
  have hput:∀ m,m≠s→(h.put s (.row 8 [stL { S with kn:=false }] false)).get m=h.get m:=fun m hm=>Ze hm
  have nt:S.tx≠s:=fun e1=>by rw[e1,hs] at ht; cases ht
  obtain⟨X',to,lt,lc,lf,m,ht',hto,hlt,hlc,hlf,hr,hm,bo',z0,bc,xl,xf,f1,f2,f3,c1,c2,c3,c4,c5,c6,c7,c8,c9,c10,c11,c12,rfl,rfl⟩:=Zqr e
  rw[hput _ nt] at ht'
  have n0:to≠s:=fun e1=>by rw[e1,Zz] at hlt; cases hlt
  have nc:X'.ch≠s:=fun e1=>by rw[e1,Zz] at hlc; cases hlc
  have nf:X'.fr≠s:=fun e1=>by rw[e1,Zz] at hlf; cases hlf
  have nr:X'.rv≠s:=fun e1=>by rw[e1,Zz] at hr; cases hr
  have nm:m≠s:=fun e1=>by rw[e1,Zz] at hm; cases hm
  rw[hput _ n0] at hlt
  rw[hput _ nc] at hlc
  rw[hput _ nf] at hlf
  rw[hput _ nr] at hr
  rw[hput _ nm] at hm
  have k6:=tidy _ _ hlt
  have k7:=tidy _ _ hlc
  have k8:=tidy _ _ hlf
  have k9:=tidy _ _ hr
  have k10:=tidy _ _ hm
  have n1:=Un c1
  have n2:=Un c2
  have n3:=Un c3
  have n4:=Un c4
  have n5:=Un c5
  have n6:=Un c6
  have n7:=Un c7
  have n8:=Un c8
  have n9:=Un c9
  have n10:=Un c10
  have n11:=Un c11
  have n12:=Un c12
  have md3:True:=trivial
  have z0d:decide (0≤z)=true:=decide_eq_true z0
  obtain⟨v,h',c,rfl,hk⟩:∃ v h',Zg 43 [.c (.ptr s 0),.c (.int .i64 z),.g x] h v h'∧v=.w (.c (.int .i64 0))∧∀ j,j<h.next→h'.get j=((((h.put s (.row 8 [stL { S with kn:=false }] false)).put to (.map (Oe (Dw z [] lt)))).put X'.ch (.map (Oe (Dw z x lc)))).put X'.fr (.map (Oe (Zii z lf)))).get j:=by
   rcases hl:Jt z lt with _|y
   ·
    rw[hl] at bc
    have bc:decide ((lt.length:Int)<X'.cr)=true:=bc
    refine Yg Hh Tryz.f43 ?_
    repeat (first|apply Zk|apply Zw|apply Z0|((first|apply Goes.Zi|apply Goes.ops2 fits Hh (EY (EY Za (Sw Hh)) (Zdb Hh))); · simp (maxSteps:=9^6) +decide (disch:=first|omega|(simp only[lens]<;>omega)|decide) only [go_sem,Zm,simprocAttr,hs,ht',hg,gdL,fb,bou,bo',md3,z0d,hto,hlt,hlc,hlf,hr,hm,hl,bc,xl,xf,f1,f2,f3,c1,c2,c3,c4,c5,c6,c7,c8,c9,c10,c11,c12,read1]<;>rfl)|(apply Goes.drawn2 fits Hh (EY (EY Za (Sw Hh)) (Zdb Hh)) (by kernel_rfl); · simp (maxSteps:=9^6) +decide (disch:=first|omega|(simp only[lens]<;>omega)|decide) only [go_sem,Zm,simprocAttr,drG,hs,ht',hg,gdL,fb,bou,bo',md3,z0d,hto,hlt,hlc,hlf,hr,hm,hl,bc,xl,xf,f1,f2,f3,c1,c2,c3,c4,c5,c6,c7,c8,c9,c10,c11,c12,read1]<;>rfl))
    exact⟨_,_,Yn,rfl,fun j hj=>by exact Ry⟩
   ·
    rw[hl] at bc
    rcases y with _|⟨y0,y⟩
    ·
     refine Yg Hh Tryz.f43 ?_
     repeat (first|apply Zk|apply Zw|apply Z0|((first|apply Goes.Zi|apply Goes.ops2 fits Hh (EY (EY Za (Sw Hh)) (Zdb Hh))); · simp (maxSteps:=9^6) +decide (disch:=first|omega|(simp only[lens]<;>omega)|decide) only [go_sem,Zm,simprocAttr,hs,ht',hg,gdL,fb,bou,bo',md3,z0d,hto,hlt,hlc,hlf,hr,hm,hl,bc,xl,xf,f1,f2,f3,c1,c2,c3,c4,c5,c6,c7,c8,c9,c10,c11,c12,read1]<;>rfl)|(apply Goes.drawn2 fits Hh (EY (EY Za (Sw Hh)) (Zdb Hh)) (by kernel_rfl); · simp (maxSteps:=9^6) +decide (disch:=first|omega|(simp only[lens]<;>omega)|decide) only [go_sem,Zm,simprocAttr,drG,hs,ht',hg,gdL,fb,bou,bo',md3,z0d,hto,hlt,hlc,hlf,hr,hm,hl,bc,xl,xf,f1,f2,f3,c1,c2,c3,c4,c5,c6,c7,c8,c9,c10,c11,c12,read1]<;>rfl))
     exact⟨_,_,Yn,rfl,fun j hj=>by exact Ry⟩
    ·cases bc
  exact c.settle (((((R9.refl tidy).put l1 (Z8k k2 k3 k4 k5 fbs false)).put k6 (Nr (Dh rfl f1))).put k7 (Nr (Dh xf f2))).put k8 (Nr (Zgz f3))) (Zfr.flat rfl) hk
 ·cases e
end
end Go.Proofs.YtecakmodlkbnaaaGreatDoor
