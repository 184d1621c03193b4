/- What Begin asks: revoked and changed blocks, if there are none; need. -/
import Derived.Test.YtmanipmhebgdbaaGreatDoorNew2
set_option maxRecDepth 100000
set_option maxHeartbeats 4000000
set_option linter.unusedSimpArgs false
set_option linter.unusedVariables false
set_option linter.unusedSectionVars false
namespace Go.Proofs.YtmanipmhebgdbaaGreatDoor
open Go.Ev
noncomputable section
theorem rs191:Tryz.f191.results.toList=[.tmp 4]:=rfl
theorem rs122:Tryz.f122.results.toList=[.tmp 4]:=rfl
theorem rs253:Tryz.f253.results.toList=[.tmp 4]:=rfl
theorem rs192:Tryz.f192.results.toList=[.tmp 2]:=rfl
theorem rs193:Tryz.f193.results.toList=[.tmp 2]:=rfl
theorem rs293:Tryz.f293.results.toList=[.tmp 2]:=rfl
theorem rs129:Tryz.f129.results.toList=[.tmp 2]:=rfl
theorem rs133:Tryz.f133.results.toList=[.tmp 2]:=rfl
theorem rs254:Tryz.f254.results.toList=[.tmp 2]:=rfl
theorem rs123:Tryz.f123.results.toList=[.tmp 6,.tmp 7]:=rfl
attribute [go_sem] rs191 rs122 rs253 rs192 rs193 rs293 rs129 rs133 rs254 rs123
def Zu3:Kn1:=fun args h=>match args with
 | [.c .snil]=>some (.tup [],h)
 | _=>none
def Ybb:Kn1:=fun args h=>match args with
 | [.c (.ptr r 0),.c (.int .u32 _)]=>(Si h r).bind fun m=>Y5 (Gh h m) (some (.w (.c .snil),h))
 | _=>none
def Zfn:Kn1:=fun args h=>match args with
 | [.c (.ptr t 0)]=>(Ov h t).bind fun X=>(Si h X.rv).bind fun m=>Y5 (Gh h m) (some (.w (.c .snil),h))
 | _=>none
def Zui:Kn1:=fun args h=>match args with
 | [.c (.map m)]=>some (.w (.c (.fn 327 [] [some (h.next,0)])),h.new (.row 1 [[.map m]] false))
 | _=>none
def Zuk:Kn1:=fun args h=>match args with
 | [.c (.map m)]=>some (.w (.c (.fn 203 [] [some (h.next,0)])),h.new (.row 1 [[.map m]] false))
 | _=>none
def Zuj:Kn1:=fun args h=>match args with
 | [.c (.map m)]=>some (.w (.c (.fn 207 [] [some (h.next,0)])),h.new (.row 1 [[.map m]] false))
 | _=>none
def Zoz:Kn1:=fun args h=>match args with
 | [.c (.fn g [] [some (a,0)])]=>Y5 (K.keys.contains g) (match h.get a with
  | some (.row sz [[.map n]] _)=>Y5 (Nat.beq sz 1) ((getM h n).bind fun l=>match En (Uv l) with
   | some []=>some (.w (.c .snil),h)
   | some (k :: ks)=>Y5 (Nat.ble (k :: ks).length 1000000) (some (.w (.c (.slice h.next 0 (k :: ks).length 1)),h.new (.row 1 ((k :: ks).map fun i=>[.int .i64 i]) false)))
   | none=>none)
  | _=>none)
 | _=>none
def Z31:Kn1:=fun args h=>match args with
 | [.c (.map m)]=>Y5 (Gh h m) (some (.w (.c .snil),h))
 | _=>none
def Re (a b:Int):Option Int:=bif decide (0<a)&&decide (a<=2048)&&decide (0<=b)&&decide (b<=2048) then some (a+(a+30 - 1) / 30+(b+60 - 1) / 60+1) else none
theorem Ml {a b n:Int} (e:Re a b=some n):0<a/\a<=2048/\0<=b/\b<=2048/\n=a+(a+30 - 1) / 30+(b+60 - 1) / 60+1:=by
 unfold Re at e
 cases q:(decide (0<a)&&decide (a<=2048)&&decide (0<=b)&&decide (b<=2048)) with
 | false=>rw[q] at e; cases e
 | true =>
  rw[q] at e
  cases e
  simp only[aQ,decide_eq_true_eq] at q
  exact⟨q.1.1.1,q.1.1.2,q.1.2,q.2,rfl⟩
def Z36:Kn1:=fun args h=>match args with
 | [.c (.int .i64 a),.c (.int .i64 n)]=>Y5 (decide (0<=a)&&decide (a<=4096)&&decide (1<=n)&&decide (n<=4096)) (some (.w (.c (.int .i64 ((a+n - 1) / n))),h))
 | _=>none
def Z4c:Kn1:=fun args h=>match args with
 | [.c (.int .i64 a),.c (.int .i64 b)]=>(Re a b).bind fun n=>some (.w (.c (.int .i64 n)),h)
 | _=>none
def Zon:Kn1:=fun args h=>match args with
 | [.c (.map m)]=>match h.get m with
  | some (.map es)=>some (.w (.c (.map h.next)),h.new (.map es))
  | _=>none
 | _=>none
def Zop:Kn1:=fun args h=>match args with
 | [.c (.map m)]=>match h.get m with
  | some (.map es)=>some (.w (.c (.map h.next)),h.new (.map es))
  | _=>none
 | _=>none
attribute [go_sem] Zu3 Ybb Zfn Zui Zuk Zuj Zoz Z31 Z36 Z4c Zon Zop
theorem Z90:K.keys.contains 327=true:=kR
theorem Z92:K.keys.contains 203=true:=kR
theorem Z91:K.keys.contains 207=true:=kR
theorem Z6f:Y4 K 22 (.c .snil)=true:=kR
theorem Yax:En (Uv [])=some []:=rfl
theorem Z5u:Q4 []=some []:=rfl
attribute [go_sem] Z90 Z92 Z91 Z6f Yax Z5u
theorem Zsc (E:Task->Option Out) (ts:Zv) (h:Hq) (t:TypeId) (x:Operand):Ul K E ts h (.range t x)=(match Ej K t with|some _=>Zdh h (Z4 K ts x)|none=>none):=rfl
theorem Zw8 (E:Task->Option Out) (ts:Zv) (h:Hq) (x:Operand):Ul K E ts h (.next x false)=Zez h (Zes h (Z4 K ts x)):=rfl
attribute [go_sem] Zsc Zw8 Zdh Zez Zes
def x00:Kn:=fun _ _ _=>none
theorem Zok:Zch K Tryz.prog x00:=fun _ _ _ _ _ e=>by cases e
section
variable (Hh:Hearts K Tryz.prog)
include Hh
theorem Zmm {args:List W} {h h':Hq} {v:V} (e:Zu3 args h=some (v,h')):Zb 202 args h v h':=by
 unfold Zu3 at e
 split at e
 ·cases e
  exact Zx.closed fits Hh Zok gl (n:=1000) kR rfl rfl h
 ·cases e
theorem Z37 {args:List W} {h h':Hq} {v:V} (e:Z36 args h=some (v,h')):Zb 191 args h v h':=by
 unfold Z36 at e
 split at e
 ·obtain⟨b,e⟩:=Zu.1 e
  simp only[aQ,decide_eq_true_eq] at b
  obtain⟨⟨⟨b1,b2⟩,b3⟩,b4⟩:=b
  cases e
  rename_i a n
  obtain⟨x,rfl⟩:=Int.eq_ofNat_of_zero_le b1
  obtain⟨m,rfl⟩:=Int.eq_ofNat_of_zero_le (show 0<=n by omega)
  have q:=Lj (a:=x+m - 1) (b:=m) oM oM
  rw[show ((x+m - 1:Nat):Int)=(x:Int)+m - 1 by omega] at q
  have q2:(((x+m - 1) / m:Nat):Int)=((x:Int)+m - 1) / m:=by
   rw[Int.natCast_ediv,show ((x+m - 1:Nat):Int)=(x:Int)+m - 1 by omega]
  rw[q2] at q
  refine fnG Hh Tryz.f191 ?_
  have Jf:=@q
  repeat (first|apply Z6|apply Yc|refine Zn Hh Za Zq ?_)
  exact Zd
 ·cases e
theorem Zj5 {args:List W} {h h':Hq} {v:V} (e:Z4c args h=some (v,h')):Zb 122 args h v h':=by
 unfold Z4c at e
 split at e
 ·obtain⟨n,hn,e⟩:=Zk e
  obtain⟨a0,a1,b0,b1,rfl⟩:=Ml hn
  cases e
  rename_i a b
  have d1:decide (a > 2048)=false:=decide_eq_false oM
  have d2:decide (b > 2048)=false:=decide_eq_false oM
  have d3:decide (a<0)=false:=decide_eq_false oM
  have d4:decide (b<0)=false:=decide_eq_false oM
  have d5:(a == 0)=false:=Db oM
  refine fnG Hh Tryz.f122 ?_
  have Jf:=Gq @d1 @d2 @d3 @d4 @d5
  iterate 4 (first|refine Zn Hh Za Zq ?_|apply gS)
  refine gO fits Hh Za (by
   iterate 22 (refine U1 Zq ?_)
   exact U0) ?_
  iterate 3 (first|refine Goes.Zi Zq ?_|apply gS)
  refine gO fits Hh (EY Za (Z37 Hh)) (by
   iterate 9 (refine U1 Zq ?_)
   exact U0) ?_
  apply Yc
  exact Zd
 ·cases e
theorem Zje {f:FuncId} {args:List W} {h h':Hq} {v:V} (e:Ew K E0 f args h=some (.val v h')):Zb f args h v h':=by
 have T:=Mo (P:=Tryz.prog) fits Hh Za (Zaz fits Za)
 exact T.call f args h v h' e
theorem Ta {args:List W} {h h':Hq} {v:V} (e:Zoz args h=some (v,h')):Zb 128 args h v h':=by
 refine Zje Hh ?_
 have e1:Ew K E0 128 args h=Ns K h args:=kR
 rw[e1]
 unfold Zoz at e
 split at e
 ·rename_i g a
  obtain⟨b,e⟩:=Zu.1 e
  split at e
  ·rename_i n ro hg
   obtain⟨b1,e⟩:=Zu.1 e
   obtain rfl:=bQ b1
   obtain⟨l,hl,e⟩:=Zk e
   have hl:=getM_some hl
   have r1:read1 1 [[C.map n]] 0=some (.map n):=rfl
   simp only[Ns,b,cond_true,hg,r1,Zdw,hl]
   split at e
   ·rename_i hk
    cases e
    rw[hk]
    rfl
   ·rename_i k ks hk
    obtain⟨b2,e⟩:=Zu.1 e
    cases e
    rw[hk]
    show (bif Nat.ble (k :: ks).length 1000000 then _ else none)=_
    rw[b2]
    rfl
   ·cases e
  ·cases e
 ·cases e
theorem Zjr {args:List W} {h h':Hq} {v:V} (e:Zon args h=some (v,h')):Zb 259 args h v h':=by
 unfold Zon at e
 split at e
 ·split at e
  ·rename_i es he
   cases e
   refine Zje Hh ?_
   have e1:∀ args,Ew K E0 259 args h=M9 h args:=fun args=>kR
   rw[e1]
   simp only[M9,he]
  ·cases e
 ·cases e
theorem Zju {args:List W} {h h':Hq} {v:V} (e:Zop args h=some (v,h')):Zb 260 args h v h':=by
 unfold Zop at e
 split at e
 ·split at e
  ·rename_i es he
   cases e
   refine Zje Hh ?_
   have e1:∀ args,Ew K E0 260 args h=M9 h args:=fun args=>kR
   rw[e1]
   simp only[M9,he]
  ·cases e
 ·cases e
theorem Zmg {args:List W} {h h':Hq} {v:V} (e:Zui args h=some (v,h')):Zb 293 args h v h':=by
 unfold Zui at e
 split at e
 ·cases e
  refine fnG Hh Tryz.f293 ?_
  repeat (first|apply Z6|apply Yc|refine Zn Hh Za Fq ?_)
  exact Zd
 ·cases e
theorem Zmi {args:List W} {h h':Hq} {v:V} (e:Zuk args h=some (v,h')):Zb 129 args h v h':=by
 unfold Zuk at e
 split at e
 ·cases e
  refine fnG Hh Tryz.f129 ?_
  repeat (first|apply Z6|apply Yc|refine Zn Hh Za Fq ?_)
  exact Zd
 ·cases e
theorem Zmh {args:List W} {h h':Hq} {v:V} (e:Zuj args h=some (v,h')):Zb 133 args h v h':=by
 unfold Zuj at e
 split at e
 ·cases e
  refine fnG Hh Tryz.f133 ?_
  repeat (first|apply Z6|apply Yc|refine Zn Hh Za Fq ?_)
  exact Zd
 ·cases e
theorem Zg4 {args:List W} {h h':Hq} {v:V} (e:Ybb args h=some (v,h')):Zb 253 args h v h':=by
 unfold Ybb at e
 split at e
 ·rename_i r q
  obtain⟨m,hr,e⟩:=Zk e
  have hr:=Gf hr
  obtain⟨b,e⟩:=Zu.1 e
  have hm:=Je b
  cases e
  refine Zx.tidy ⟨Tryz.f253,Tryz.func253,kR,by decide⟩ fun tidy=>?_
  have l1:=tidy _ _ hr
  have l2:=tidy _ _ hm
  refine Dx rfl ?_
  refine Ym Hh Tryz.f253 ?_
  repeat (first|apply Z6|apply O9|apply E9|apply Yx|apply Ea|apply Yc|((first|apply Goes.Zi|apply gO fits Hh (EY (EY Za (Zml Hh)) (Zmm Hh))); · simp (maxSteps:=9^6) +decide (disch:=first|exact dZ|fail) only [go_sem,Zm,Zh,simprocAttr,hr,hm,read1,Zdh,Zez,Zes]<;>rfl))
  exact⟨_,_,Zd,rfl,fun j hj=>by exact Yn⟩
 ·cases e
theorem Zd8 {args:List W} {h h':Hq} {v:V} (e:Zfn args h=some (v,h')):Zb 192 args h v h':=by
 unfold Zfn at e
 split at e
 ·rename_i t
  obtain⟨X,ht,e⟩:=Zk e
  have ht:=Yw ht
  obtain⟨m,hr,e⟩:=Zk e
  have hr:=Gf hr
  obtain⟨b,e⟩:=Zu.1 e
  have hm:=Je b
  cases e
  refine fnG Hh Tryz.f192 ?_
  have Jf:=Jh @ht @hr @hm
  repeat (first|apply Z6|apply Yx|apply Yc|refine Goes.Zi Ye ?_|refine Zn Hh (EY (EY Za (Bh Hh)) (Zg4 Hh)) Ye ?_|refine Fe Hh (EY (EY Za (Bh Hh)) (Zg4 Hh)) Zz6 ?_)
  exact Zd
 ·cases e
theorem Z32 {args:List W} {h h':Hq} {v:V} (e:Z31 args h=some (v,h')):Zb 254 args h v h':=by
 unfold Z31 at e
 split at e
 ·rename_i m
  obtain⟨b,e⟩:=Zu.1 e
  have hm:=Je b
  cases e
  refine Zx.tidy ⟨Tryz.f254,Tryz.func254,kR,by decide⟩ fun tidy=>?_
  have l2:=tidy _ _ hm
  refine Dx rfl ?_
  refine Ym Hh Tryz.f254 ?_
  have Jf:=@hm
  repeat (first|apply Z6|apply Yc|refine Zn Hh (EY (EY Za (Zmg Hh)) (Ta Hh)) Ye ?_)
  exact⟨_,_,Zd,rfl,fun j hj=>by exact Yn⟩
 ·cases e
end
theorem rs198:Tryz.f198.results.toList=[.cell 4 306]:=rfl
theorem rs125:Tryz.f125.results.toList=[.tmp 6]:=rfl
theorem rs55:Tryz.f55.results.toList=[.tmp 6]:=rfl
attribute [go_sem] rs198 rs125 rs55
def Qu (h:Hq):Hq:=((((((h.new (.row 4 [[.mnil,.mnil,.mnil,.pnil]] false)).new (.map [])).new (.row 1 [[.map (h.next+1)]] false)).new (.map [])).new (.map [])).new (.map [])).put h.next (.row 4 [[.map (h.next+1+1+1),.map (h.next+1+1+1+1),.map (h.next+1+1+1+1+1),.ptr (h.next+1+1) 0]] false)
def Zmy (h:Hq) (t:Nat) (X:Tx) (c r:Int):Hq :=
 (Qu ((((((h.put t (.row 13 [txL { X with op:=true }] false)).put t (.row 13 [txL { X with op:=true,cr:=c }] false)).put t (.row 13 [txL { X with op:=true,cr:=c,rk:=r }] false)).new (.map [])).put t (.row 13 [txL { X with op:=true,cr:=c,rk:=r,to:=.map h.next }] false)))).put t (.row 13 [txL { X with op:=true,cr:=c,rk:=r,to:=.map h.next,b1:=.map (h.next+1+1+1+1),b2:=.map (h.next+1+1+1+1+1),b3:=.map (h.next+1+1+1+1+1+1),b4:=.ptr (h.next+1+1+1) 0 }] false)
def Uz (h:Hq) (s:Nat) (S:Stt):Hq:=((((h.new (.map [])).put s (.row 8 [stL { S with dt:=h.next }] false)).new (.map [])).put s (.row 8 [stL { S with dt:=h.next,gv:=h.next+1 }] false)).put s (.row 8 [stL { S with dt:=h.next,gv:=h.next+1,kn:=false }] false)
def Zow:Kn1:=fun args h=>match args with
 | [.c (.ptr s 0),.c (.int .i64 c),.c (.int .i64 r)]=>(G6 h s).bind fun S=>(Ov h S.tx).bind fun X=>(Eu h S.gd).bind fun G=>(Si h X.rv).bind fun m=>(Re c r).bind fun n=>Y5 (decide (n<=(G.jr:Int) - 1)&&!X.op&&decide (X.sq<=2147483648)&&Gh h m&&Gh h X.ch&&Gh h X.od&&Gh h X.fr) (some (.w (.c (.int .i64 0)),Zmy (Uz h s S) S.tx X c r))
 | _=>none
attribute [go_sem] Zow
theorem Zdb:Y4 K 22 (.c .snil)=true:=kR
attribute [go_sem] Zdb
section
variable (Hh:Hearts K Tryz.prog)
include Hh
end
section
variable (Hh:Hearts K Tryz.prog)
include Hh
end
theorem rs83:Tryz.f83.results.toList=[.cell 4 87,.tmp 5]:=rfl
theorem rs34:Tryz.f34.results.toList=[.cell 4 87,.tmp 5]:=rfl
attribute [go_sem] rs83 rs34
theorem Zd1 {c:Nat} {z:Int} {h h':Hq} {v:V} (e:W9 [.c (.ptr c 0),.c (.int .i64 z)] h=some (v,h')):∃ X D l,h.get c=some (.row 3 [ckL X] false)/\h.get X.d=some (.row 6 [dkL D] false)/\0<D.n/\D.n<=2048/\0<=z/\z<(D.n:Int)/\h.get X.m=some (.map (Uv l)) /\
    ((∃ y,Jd z l=some y/\y.length=257/\y.all C.flat=true/\v=.tup [.g (y.take 256),.c (.int .i64 0)]/\h'=h) \/
     (Jd z l=none/\Bj l=true/\∃ x L ro,h.get D.q=some (.row 256 L ro)/\L[z.toNat]? = some x/\x.length=256/\x.all C.flat=true/\v=.tup [.g x,.c (.int .i64 0)]/\h'=h.put X.m (.map (Uv (Dp z (x++[.bool false]) l))))):=by
  unfold W9 at e
  obtain⟨X,hc,e⟩:=Zk e
  have hc:=Sg hc
  obtain⟨D,hd,e⟩:=Zk e
  obtain⟨hd,n0,n1⟩:=Ox hd
  obtain⟨b,e⟩:=Zu.1 e
  simp only[aQ,decide_eq_true_eq] at b
  obtain⟨z0,z1⟩:=b
  obtain⟨l,hm,e⟩:=Zk e
  have hm:=getM_some hm
  refine⟨X,D,l,hc,hd,n0,n1,z0,z1,hm,?_⟩
  split at e
  · rename_i y hl
    obtain⟨b,e⟩:=Zu.1 e
    rw[aQ] at b
    cases e
    exact .inl ⟨y,hl,bQ b.1,b.2,rfl,rfl⟩
  · rename_i hl
    obtain⟨fl,e⟩:=Zu.1 e
    obtain⟨x,hx,e⟩:=Zk e
    obtain⟨L,ro,hq,hL,xl,xf⟩:=Zeq hx
    cases e
    exact .inr ⟨hl,fl,x,L,ro,hq,hL,xl,xf,rfl,rfl⟩
def S9:Kn1:=fun args h=>match args with
  | [.c (.ptr s 0),.c (.int .i64 z)]=>(G6 h s).bind fun S=>(getM h S.dt).bind fun ld=>match Jd z ld with
    | some y=>Y5 (Nat.beq y.length 257&&y.all C.flat) (some (.tup [.g (y.drop 1),.c (.int .i64 0)],h))
    | none=>(Ov h S.tx).bind fun X=>(getM h X.ch).bind fun lc=>match Jd z lc with
      | some y=>Y5 (Nat.beq y.length 256&&y.all C.flat) (some (.tup [.g y,.c (.int .i64 0)],h))
      | none=>(Eu h S.gd).bind fun G=>Y5 (Zjk h G.li) (W9 [.c (.ptr G.ca 0),.c (.int .i64 z)] h)
  | _=>none
def Zga:Kn1:=fun args h=>match args with
  | [.c (.ptr s 0),.c (.int .i64 z)]=>(G6 h s).bind fun S=>(Eu h S.gd).bind fun G=>Y5 (decide (z<9223372036854775808)) (bif Bp G.gr G.sz G.ino G.jr z then S9 [.c (.ptr s 0),.c (.int .i64 z)] h else some (.tup [.g zB,.c (.int .i64 2)],h))
  | _=>none
attribute [go_sem] S9 Zga
theorem Zd5 {s:Nat} {z:Int} {h h':Hq} {v:V} (e:S9 [.c (.ptr s 0),.c (.int .i64 z)] h=some (v,h')):∃ S ld,h.get s=some (.row 8 [stL S] false)/\h.get S.dt=some (.map (Uv ld)) /\
    ((∃ y,Jd z ld=some y/\y.length=257/\y.all C.flat=true/\v=.tup [.g (y.drop 1),.c (.int .i64 0)]/\h'=h) \/
     (Jd z ld=none/\∃ X lc,h.get S.tx=some (.row 13 [txL X] false)/\h.get X.ch=some (.map (Uv lc)) /\
      ((∃ y,Jd z lc=some y/\y.length=256/\y.all C.flat=true/\v=.tup [.g y,.c (.int .i64 0)]/\h'=h) \/
       (Jd z lc=none/\∃ G,h.get S.gd=some (.row 9 [gdL G] false)/\Yu G.gr G.sz G.ino G.jr=true/\Zjk h G.li=true/\W9 [.c (.ptr G.ca 0),.c (.int .i64 z)] h=some (v,h'))))):=by
  unfold S9 at e
  obtain⟨S,hs,e⟩:=Zk e
  have hs:=Y6 hs
  obtain⟨ld,hd,e⟩:=Zk e
  have hd:=getM_some hd
  refine⟨S,ld,hs,hd,?_⟩
  split at e
  · rename_i y hl
    obtain⟨b,e⟩:=Zu.1 e
    rw[aQ] at b
    cases e
    exact .inl ⟨y,hl,bQ b.1,b.2,rfl,rfl⟩
  · rename_i hl
    obtain⟨X,ht,e⟩:=Zk e
    have ht:=Yw ht
    obtain⟨lc,hc,e⟩:=Zk e
    have hc:=getM_some hc
    refine .inr ⟨hl,X,lc,ht,hc,?_⟩
    split at e
    · rename_i y hl
      obtain⟨b,e⟩:=Zu.1 e
      rw[aQ] at b
      cases e
      exact .inl ⟨y,hl,bQ b.1,b.2,rfl,rfl⟩
    · rename_i hl
      obtain⟨G,hg,e⟩:=Zk e
      obtain⟨hg,fb⟩:=Jp hg
      obtain⟨b,e⟩:=Zu.1 e
      exact .inr ⟨hl,G,hg,fb,b,e⟩
theorem Zlg {l:List C} (n:Nat) (h:l.all C.flat=true):(l.drop n).all C.flat=true:=List.all_eq_true.2 fun x hx=>List.all_eq_true.1 h x (List.mem_of_mem_drop hx)
theorem Zlh {l:List C} (n:Nat) (h:l.all C.flat=true):(l.take n).all C.flat=true:=List.all_eq_true.2 fun x hx=>List.all_eq_true.1 h x (List.mem_of_mem_take hx)
theorem Lh {l:List C} {z:Int} (h:l.all C.flat=true):V.flat (.tup [.g l,.c (.int .i64 z)])=true:=by
  show (l.all C.flat&&true)=true
  rw[h]; rfl
section
variable (Hh:Hearts K Tryz.prog)
include Hh
set_option maxHeartbeats 2000000 in
theorem Xq {args:List W} {h h':Hq} {v:V} (e:S9 args h=some (v,h')):Zb 83 args h v h':=by
  have e0:=e
  unfold S9 at e
  split at e
  · rename_i s z
    clear e
    refine Zx.tidy ⟨Tryz.f83,Tryz.func83,kR,by decide⟩ fun tidy=>?_
    obtain⟨S,ld,hs,hd,⟨y,hl,yl,yf,rfl,rfl⟩|⟨hl,X,lc,ht,hc,⟨y,hl2,yl,yf,rfl,rfl⟩|⟨hl2,G,hg,fb,vl,e⟩⟩⟩:=Zd5 e0
    · have l1:=tidy _ _ hs
      have l2:=tidy _ _ hd
      have rr:Zm 257 [y] 1 256=some (y.drop 1):=by
        rw[Zts oM,List.take_of_length_le (by rw[List.length_drop]; omega)]
      have tl:(y.drop 1).length=256:=by rw[List.length_drop]; omega
      obtain⟨v,h2,c,rfl,hk⟩:∃ v h2,Zb 83 [.c (.ptr s 0),.c (.int .i64 z)] h' v h2/\v=.tup [.g (y.drop 1),.c (.int .i64 0)]/\∀ m,m<h'.next->h2.get m=h'.get m:=by
        refine Ym Hh Tryz.f83 ?_
        have Jf:=J4 @hs @hd @hl @rr
        repeat (first|apply Z6|apply Yx|apply Yc|refine Goes.Zi Uq ?_|refine Zn Hh (EY (EY (EY (EY Za (Zd6 Hh)) (Zd3 Hh)) (Zd2 Hh)) (Zbg Hh)) Uq ?_)
        exact⟨_,_,(by have Jf:=J4 @hs @hd @hl @rr; exact Zt),rfl,fun m hm=>by exact Ni⟩
      exact c.quiet (Lh (Zlg 1 yf)) hk
    · have l1:=tidy _ _ hs
      have l2:=tidy _ _ hd
      have l3:=tidy _ _ ht
      have l4:=tidy _ _ hc
      obtain⟨v,h2,c,rfl,hk⟩:∃ v h2,Zb 83 [.c (.ptr s 0),.c (.int .i64 z)] h' v h2/\v=.tup [.g y,.c (.int .i64 0)]/\∀ m,m<h'.next->h2.get m=h'.get m:=by
        refine Ym Hh Tryz.f83 ?_
        have Jf:=Ng @hs @hd @hl @ht @hc @hl2 @yf
        repeat (first|apply Z6|apply Yx|apply Yc|refine Goes.Zi Uq ?_|refine Zn Hh (EY (EY (EY (EY Za (Zd6 Hh)) (Zd3 Hh)) (Zd2 Hh)) (Zbg Hh)) Uq ?_)
        exact⟨_,_,(by have Jf:=Jh @hs @hd @hl; exact Zt),rfl,fun m hm=>by exact Ni⟩
      exact c.quiet (Lh yf) hk
    · obtain⟨k1,k2,k3,k4,k5,k6,ro,hli⟩:=Wy vl
      obtain⟨Y,D,l,hck,hdk,n0,n1,z0,z1,hm,⟨y,hl3,yl,yf,rfl,rfl⟩|⟨hl3,fl,x,L,ro,hq,hL,xl,xf,rfl,rfl⟩⟩:=Zd1 e
      · have l1:=tidy _ _ hs
        have l2:=tidy _ _ hd
        have l3:=tidy _ _ ht
        have l4:=tidy _ _ hc
        have l5:=tidy _ _ hg
        have l6:=tidy _ _ hck
        have l7:=tidy _ _ hdk
        have l8:=tidy _ _ hm
        have l9:=tidy _ _ hli
        have tl:(y.take 256).length=256:=by rw[List.length_take]; omega
        obtain⟨v,h2,c,rfl,hk⟩:∃ v h2,Zb 83 [.c (.ptr s 0),.c (.int .i64 z)] h' v h2/\v=.tup [.g (y.take 256),.c (.int .i64 0)]/\∀ m,m<h'.next->h2.get m=h'.get m:=by
          refine Ym Hh Tryz.f83 ?_
          repeat (first|apply Z6|apply Yx|apply Yc|((first|apply Goes.Zi|apply gO fits Hh (EY (EY (EY (EY Za (Zd6 Hh)) (Zd3 Hh)) (Zd2 Hh)) (Zbg Hh))); · simp (maxSteps:=9^6) +decide (disch:=first|exact dZ|fail) only [go_sem,Zh,simprocAttr,hs,hd,hl,ht,hc,hl2,hg,gdL,fb,hli,hck,hdk,hm,hl3,yf,zB,read1]<;>rfl))
          exact⟨_,_,Yi,rfl,fun m hm=>by exact Ni⟩
        exact c.quiet (Lh (Zlh 256 yf)) hk
      · have l1:=tidy _ _ hs
        have l2:=tidy _ _ hd
        have l3:=tidy _ _ ht
        have l4:=tidy _ _ hc
        have l5:=tidy _ _ hg
        have l6:=tidy _ _ hck
        have l7:=tidy _ _ hdk
        have l8:=tidy _ _ hm
        have l9:=tidy _ _ hli
        have l10:=tidy _ _ hq
        obtain⟨v,h2,c,rfl,hk⟩:∃ v h2,Zb 83 [.c (.ptr s 0),.c (.int .i64 z)] h v h2/\v=.tup [.g x,.c (.int .i64 0)]/\∀ m,m<h.next->h2.get m=(h.put Y.m (.map (Uv (Dp z (x++[.bool false]) l)))).get m:=by
          refine Ym Hh Tryz.f83 ?_
          repeat (first|apply Z6|apply Yx|apply Yc|((first|apply Goes.Zi|apply gO fits Hh (EY (EY (EY (EY Za (Zd6 Hh)) (Zd3 Hh)) (Zd2 Hh)) (Zbg Hh))); · simp (maxSteps:=9^6) +decide (disch:=first|exact dZ|fail) only [go_sem,Zh,simprocAttr,hs,hd,hl,ht,hc,hl2,hg,gdL,fb,hli,hck,hdk,hm,hl3,hq,hL,xl,xf,fl,zB,read1]<;>rfl))
          exact⟨_,_,Yi,rfl,fun m hm=>by exact Ni⟩
        refine c.settle ((Vn.refl tidy).put l8 (M8 (Da ?_ fl))) (Zkb.flat (Lh xf)) hk
        rw[List.all_append,xf]; rfl
  · cases e
end
theorem Z7n:∀ {S S':Stt},stL S=stL S'->S=S'
 | ⟨a,b,c,d,e,f⟩,⟨a',b',c',d',e',f'⟩,h=>by
  have h':[C.ptr a 0,.ptr b 0,.pnil,.map c,.map d,e,.bool f,.bool false]=[C.ptr a' 0,.ptr b' 0,.pnil,.map c',.map d',e',.bool f',.bool false]:=h
  cases h'
  rfl
theorem Z52:∀ {G G':Gd},gdL G=gdL G'->G=G'
 | ⟨a,b,c,d,e,f,g,i,j⟩,⟨a',b',c',d',e',f',g',i',j'⟩,h=>by
  have h':[C.int .i64 (a:Int),.int .i64 (b:Int),.int .i64 (c:Int),.int .i64 (d:Int),.int .u8 e,.ptr f 0,.ptr g 0,.ptr i 0,.ptr j 0]=[C.int .i64 (a':Int),.int .i64 (b':Int),.int .i64 (c':Int),.int .i64 (d':Int),.int .u8 e',.ptr f' 0,.ptr g' 0,.ptr i' 0,.ptr j' 0]:=h
  simp only[List.cons.injEq,C.int.injEq,C.ptr.injEq,and_true,true_and,Int.ofNat_inj] at h'
  obtain⟨rfl,rfl,rfl,rfl,rfl,rfl,rfl,rfl,rfl⟩:=h'
  rfl
section
variable (Hh:Hearts K Tryz.prog)
include Hh
set_option maxHeartbeats 4000000 in
theorem Eo {args:List W} {h h':Hq} {v:V} (e:Zga args h=some (v,h')):Zb 34 args h v h':=by
 unfold Zga at e
 split at e
 ·rename_i s z
  obtain⟨S0,hs0,e⟩:=Zk e
  obtain⟨G0,hg0,e⟩:=Zk e
  obtain⟨bz,e⟩:=Zu.1 e
  have z1:=of_decide_eq_true bz
  have hs:=Y6 hs0
  obtain⟨hg,fb⟩:=Jp hg0
  refine Zx.tidy ⟨Tryz.f34,Tryz.func34,kR,by decide⟩ fun tidy=>?_
  have l1:=tidy _ _ hs
  have l5:=tidy _ _ hg
  rcases hb:Bp G0.gr G0.sz G0.ino G0.jr z with _|_
  ·rw[hb] at e
   cases e
   obtain⟨v,h2,c,rfl,hk⟩:∃ v h2,Zb 34 [.c (.ptr s 0),.c (.int .i64 z)] h v h2/\v=.tup [.g zB,.c (.int .i64 2)]/\∀ m,m<h.next->h2.get m=h.get m:=by
    refine Ym Hh Tryz.f34 ?_
    repeat (first|apply Z6|apply Yx|apply Yc|((first|apply Goes.Zi|apply gO fits Hh (EY (EY (EY Za (Ga Hh)) (Rx Hh)) (Xq Hh))); · simp (maxSteps:=9^6) +decide (disch:=first|exact dZ|fail) only [go_sem,Zh,simprocAttr,hs,hg,gdL,fb,hb,zB,read1]<;>rfl))
    exact⟨_,_,(by simp (maxSteps:=9^6) +decide (disch:=first|exact dZ|fail) only [go_sem,Zh,simprocAttr,zB]<;>rfl),rfl,fun m hm=>by exact Ni⟩
   exact c.quiet (Lh Z79) hk
  ·rw[hb] at e
   have e:S9 [.c (.ptr s 0),.c (.int .i64 z)] h=some (v,h'):=e
   obtain⟨S,ld,hs2,hd,q⟩:=Zd5 e
   have eS:S0=S:=by
    rw[hs] at hs2
    have e1:stL S0=stL S:=by simpa using hs2
    exact Z7n e1
   subst eS
   have l2:=tidy _ _ hd
   obtain⟨y,hl,yl,yf,rfl,rfl⟩|⟨hl,X,lc,ht,hc,⟨y,hl2,yl,yf,rfl,rfl⟩|⟨hl2,G,hg2,fb2,vl,e⟩⟩:=q
   ·have tl:(y.drop 1).length=256:=by rw[List.length_drop]; omega
    obtain⟨v,h2,c,rfl,hk⟩:∃ v h2,Zb 34 [.c (.ptr s 0),.c (.int .i64 z)] h' v h2/\v=.tup [.g (y.drop 1),.c (.int .i64 0)]/\∀ m,m<h'.next->h2.get m=h'.get m:=by
     refine Ym Hh Tryz.f34 ?_
     repeat (first|apply Z6|apply Yx|apply Yc|((first|apply Goes.Zi|apply gO fits Hh (EY (EY (EY Za (Ga Hh)) (Rx Hh)) (Xq Hh))); · simp (maxSteps:=9^6) +decide (disch:=first|exact dZ|fail) only [go_sem,Zh,simprocAttr,hs,hg,gdL,fb,hb,hd,hl,yl,yf,read1]<;>rfl))
     exact⟨_,_,Yi,rfl,fun m hm=>by exact Ni⟩
    exact c.quiet (Lh (Zlg 1 yf)) hk
   ·have l3:=tidy _ _ ht
    have l4:=tidy _ _ hc
    obtain⟨v,h2,c,rfl,hk⟩:∃ v h2,Zb 34 [.c (.ptr s 0),.c (.int .i64 z)] h' v h2/\v=.tup [.g y,.c (.int .i64 0)]/\∀ m,m<h'.next->h2.get m=h'.get m:=by
     refine Ym Hh Tryz.f34 ?_
     repeat (first|apply Z6|apply Yx|apply Yc|((first|apply Goes.Zi|apply gO fits Hh (EY (EY (EY Za (Ga Hh)) (Rx Hh)) (Xq Hh))); · simp (maxSteps:=9^6) +decide (disch:=first|exact dZ|fail) only [go_sem,Zh,simprocAttr,hs,hg,gdL,fb,hb,hd,hl,ht,hc,hl2,yl,yf,read1]<;>rfl))
     exact⟨_,_,Yi,rfl,fun m hm=>by exact Ni⟩
    exact c.quiet (Lh yf) hk
   ·have eG:G0=G:=by
     rw[hg] at hg2
     have e1:gdL G0=gdL G:=by simpa using hg2
     exact Z52 e1
    subst eG
    obtain⟨k1,k2,k3,k4,k5,k6,ro,hli⟩:=Wy vl
    obtain⟨Y,D,l,hck,hdk,n0,n1,z0,z2,hm,⟨y,hl3,yl,yf,rfl,rfl⟩|⟨hl3,fl,x,L,ro,hq,hL,xl,xf,rfl,rfl⟩⟩:=Zd1 e
    ·have l3:=tidy _ _ ht
     have l4:=tidy _ _ hc
     have l6:=tidy _ _ hck
     have l7:=tidy _ _ hdk
     have l8:=tidy _ _ hm
     have l9:=tidy _ _ hli
     have l10:=tidy _ _ hg2
     have tl:(y.take 256).length=256:=by rw[List.length_take]; omega
     obtain⟨v,h2,c,rfl,hk⟩:∃ v h2,Zb 34 [.c (.ptr s 0),.c (.int .i64 z)] h' v h2/\v=.tup [.g (y.take 256),.c (.int .i64 0)]/\∀ m,m<h'.next->h2.get m=h'.get m:=by
      refine Ym Hh Tryz.f34 ?_
      repeat (first|apply Z6|apply Yx|apply Yc|((first|apply Goes.Zi|apply gO fits Hh (EY (EY (EY Za (Ga Hh)) (Rx Hh)) (Xq Hh))); · simp (maxSteps:=9^6) +decide (disch:=first|exact dZ|fail) only [go_sem,Zh,simprocAttr,hs,hg2,gdL,fb,fb2,hb,hd,hl,ht,hc,hl2,hli,hck,hdk,hm,hl3,yl,yf,zB,read1]<;>rfl))
      exact⟨_,_,Yi,rfl,fun m hm=>by exact Ni⟩
     exact c.quiet (Lh (Zlh 256 yf)) hk
    ·have l3:=tidy _ _ ht
     have l4:=tidy _ _ hc
     have l6:=tidy _ _ hck
     have l7:=tidy _ _ hdk
     have l8:=tidy _ _ hm
     have l9:=tidy _ _ hli
     have l10:=tidy _ _ hg2
     have l11:=tidy _ _ hq
     obtain⟨v,h2,c,rfl,hk⟩:∃ v h2,Zb 34 [.c (.ptr s 0),.c (.int .i64 z)] h v h2/\v=.tup [.g x,.c (.int .i64 0)]/\∀ m,m<h.next->h2.get m=(h.put Y.m (.map (Uv (Dp z (x++[.bool false]) l)))).get m:=by
      refine Ym Hh Tryz.f34 ?_
      repeat (first|apply Z6|apply Yx|apply Yc|((first|apply Goes.Zi|apply gO fits Hh (EY (EY (EY Za (Ga Hh)) (Rx Hh)) (Xq Hh))); · simp (maxSteps:=9^6) +decide (disch:=first|exact dZ|fail) only [go_sem,Zh,simprocAttr,hs,hg2,gdL,fb,fb2,hb,hd,hl,ht,hc,hl2,hli,hck,hdk,hm,hl3,hq,hL,xl,xf,fl,zB,read1]<;>rfl))
      exact⟨_,_,Yi,rfl,fun m hm=>by exact Ni⟩
     refine c.settle ((Vn.refl tidy).put l8 (M8 (Da ?_ fl))) (Zkb.flat (Lh xf)) hk
     rw[List.all_append,xf]; rfl
 ·cases e
end
theorem rs77:Tryz.f77.results.toList=[.tmp 6]:=rfl
attribute [go_sem] rs77
theorem Zr4 {t:Nat} {z:Int} {x:List C} {h h':Hq} {v:V} (e:Zj7 [.c (.ptr t 0),.c (.int .i64 z),.g x] h=some (v,h')):∃ X to lt lc lf m,h.get t=some (.row 13 [txL X] false)/\X.to=.map to/\h.get to=some (.map (Uv lt))/\h.get X.ch=some (.map (Uv lc))/\h.get X.fr=some (.map (Uv lf))/\h.get X.rv=some (.row 1 [[.map m]] false)/\h.get m=some (.map []) /\
  X.op=true/\0<=z/\(match Jd z lt with|none=>decide ((lt.length:Int)<X.cr)|some []=>true|some (_ :: _)=>false)=true/\x.length=256/\x.all C.flat=true/\Bj lt=true/\Bj lc=true/\Bj lf=true /\
  Nat.beq to X.ch=false/\Nat.beq to X.fr=false/\Nat.beq X.ch X.fr=false/\Nat.beq to m=false/\Nat.beq X.ch m=false/\Nat.beq X.fr m=false/\Nat.beq to t=false/\Nat.beq X.ch t=false/\Nat.beq X.fr t=false/\Nat.beq to X.rv=false/\Nat.beq X.ch X.rv=false/\Nat.beq X.fr X.rv=false /\
  v=.w (.c (.int .i64 0))/\h'=((h.put to (.map (Uv (Dp z [] lt)))).put X.ch (.map (Uv (Dp z x lc)))).put X.fr (.map (Uv (Zhn z lf))):=by
 unfold Zj7 at e
 obtain⟨X,ht,e⟩:=Zk e
 have ht:=Yw ht
 obtain⟨to,hto,e⟩:=Zk e
 have hto:=Zrm hto
 obtain⟨lt,hlt,e⟩:=Zk e
 have hlt:=getM_some hlt
 obtain⟨lc,hlc,e⟩:=Zk e
 have hlc:=getM_some hlc
 obtain⟨lf,hlf,e⟩:=Zk e
 have hlf:=getM_some hlf
 obtain⟨m,hr,e⟩:=Zk e
 have hr:=Gf hr
 obtain⟨b,e⟩:=Zu.1 e
 cases e
 simp only[aQ,Bool.not_eq_true'] at b
 obtain⟨⟨⟨⟨⟨⟨⟨⟨⟨⟨⟨⟨⟨⟨⟨⟨⟨⟨⟨⟨bo,z0⟩,bm⟩,bc⟩,bx⟩,xf⟩,f1⟩,f2⟩,f3⟩,c1⟩,c2⟩,c3⟩,c4⟩,c5⟩,c6⟩,c7⟩,c8⟩,c9⟩,c10⟩,c11⟩,c12⟩:=b
 exact⟨X,to,lt,lc,lf,m,ht,hto,hlt,hlc,hlf,hr,Je bm,bo,of_decide_eq_true z0,bc,bQ bx,xf,f1,f2,f3,c1,c2,c3,c4,c5,c6,c7,c8,c9,c10,c11,c12,rfl,rfl⟩
def Zuv (s:Nat) (S:Stt) (z:Int) (x:List C) (h:Hq):Option (V × Hq):=(getM h S.dt).bind fun _=>(getM h S.gv).bind fun _=>Y5 (C.flat S.bs) (Zj7 [.c (.ptr S.tx 0),.c (.int .i64 z),.g x] (h.put s (.row 8 [stL { S with kn:=false }] false)))
def Zr0:Kn1:=fun args h=>match args with
 | [.c (.ptr s 0),.c (.int .i64 z),.g x]=>(G6 h s).bind fun S=>(Ov h S.tx).bind fun X=>(Eu h S.gd).bind fun G=>Y5 (X.op&&decide (z<9223372036854775808)&&Bp G.gr G.sz G.ino G.jr z) (Zuv s S z x h)
 | _=>none
theorem Z94 {b:Nat} {S:Stt} (l2:S.gd<b) (l3:S.tx<b) (l4:S.dt<b) (l5:S.gv<b) (fb:C.flat S.bs=true) (k:Bool):Zwy b (.row 8 [stL { S with kn:=k }] false):=by
 refine Zwb fun τ hτ=>?_
 show [[C.ptr (τ S.gd) 0,.ptr (τ S.tx) 0,.pnil,.map (τ S.dt),.map (τ S.gv),S.bs.ren τ,.bool k,.bool false]]=_
 rw[hτ _ l2,hτ _ l3,hτ _ l4,hτ _ l5,C.Jj fb]
 rfl
section
variable (Hh:Hearts K Tryz.prog)
include Hh
set_option maxHeartbeats 4000000 in
theorem N7 {args:List W} {h h':Hq} {v:V} (e:Zr0 args h=some (v,h')):Zb 77 args h v h':=by
 unfold Zr0 at e
 split at e
 ·rename_i s z x
  obtain⟨S,hs,e⟩:=Zk e
  have hs:=Y6 hs
  obtain⟨X,ht,e⟩:=Zk e
  have ht:=Yw ht
  obtain⟨G,hg,e⟩:=Zk e
  obtain⟨hg,fb⟩:=Jp hg
  obtain⟨b,e⟩:=Zu.1 e
  simp only[aQ,decide_eq_true_eq] at b
  obtain⟨⟨bo,z1⟩,bou⟩:=b
  refine Zx.tidy ⟨Tryz.f77,Tryz.func77,kR,by decide⟩ fun tidy=>?_
  unfold Zuv at e
  obtain⟨ldt,hdt,e⟩:=Zk e
  have hdt:=getM_some hdt
  obtain⟨lgv,hgv,e⟩:=Zk e
  have hgv:=getM_some hgv
  obtain⟨fbs,e⟩:=Zu.1 e
  have l1:=tidy _ _ hs
  have k2:=tidy _ _ hg
  have k3:=tidy _ _ ht
  have k4:=tidy _ _ hdt
  have k5:=tidy _ _ hgv
  have hput:∀ m,m≠s->(h.put s (.row 8 [stL { S with kn:=false }] false)).get m=h.get m:=fun m hm=>Zc hm
  have nt:S.tx≠s:=fun e1=>by rw[e1,hs] at ht; cases ht
  obtain⟨X',to,lt,lc,lf,m,ht',hto,hlt,hlc,hlf,hr,hm,bo',z0,bc,xl,xf,f1,f2,f3,c1,c2,c3,c4,c5,c6,c7,c8,c9,c10,c11,c12,rfl,rfl⟩:=Zr4 e
  rw[hput _ nt] at ht'
  have n0:to≠s:=fun e1=>by rw[e1,Zz] at hlt; cases hlt
  have nc:X'.ch≠s:=fun e1=>by rw[e1,Zz] at hlc; cases hlc
  have nf:X'.fr≠s:=fun e1=>by rw[e1,Zz] at hlf; cases hlf
  have nr:X'.rv≠s:=fun e1=>by rw[e1,Zz] at hr; cases hr
  have nm:m≠s:=fun e1=>by rw[e1,Zz] at hm; cases hm
  rw[hput _ n0] at hlt
  rw[hput _ nc] at hlc
  rw[hput _ nf] at hlf
  rw[hput _ nr] at hr
  rw[hput _ nm] at hm
  have k6:=tidy _ _ hlt
  have k7:=tidy _ _ hlc
  have k8:=tidy _ _ hlf
  have k9:=tidy _ _ hr
  have k10:=tidy _ _ hm
  have n1:=Ut c1
  have n2:=Ut c2
  have n3:=Ut c3
  have n4:=Ut c4
  have n5:=Ut c5
  have n6:=Ut c6
  have n7:=Ut c7
  have n8:=Ut c8
  have n9:=Ut c9
  have n10:=Ut c10
  have n11:=Ut c11
  have n12:=Ut c12
  have md3:True:=trivial
  have z0d:decide (0<=z)=true:=decide_eq_true z0
  obtain⟨v,h',c,rfl,hk⟩:∃ v h',Zb 77 [.c (.ptr s 0),.c (.int .i64 z),.g x] h v h'/\v=.w (.c (.int .i64 0))/\∀ j,j<h.next->h'.get j=((((h.put s (.row 8 [stL { S with kn:=false }] false)).put to (.map (Uv (Dp z [] lt)))).put X'.ch (.map (Uv (Dp z x lc)))).put X'.fr (.map (Uv (Zhn z lf)))).get j:=by
   rcases hl:Jd z lt with _|y
   ·
    rw[hl] at bc
    have bc:decide ((lt.length:Int)<X'.cr)=true:=bc
    refine Ym Hh Tryz.f77 ?_
    repeat (first|apply Z6|apply Yx|apply Yc|((first|apply Goes.Zi|apply gO fits Hh (EY (EY Za (Vd Hh)) (Zd7 Hh))); · simp (maxSteps:=9^6) +decide (disch:=first|exact dZ|fail) only [go_sem,Zh,simprocAttr,hs,ht',hg,gdL,fb,bou,bo',md3,z0d,hto,hlt,hlc,hlf,hr,hm,hl,bc,xl,xf,f1,f2,f3,c1,c2,c3,c4,c5,c6,c7,c8,c9,c10,c11,c12,read1]<;>rfl)|(apply Goes.drawn2 fits Hh (EY (EY Za (Vd Hh)) (Zd7 Hh)) kR; · simp (maxSteps:=9^6) +decide (disch:=first|exact dZ|fail) only [go_sem,Zh,simprocAttr,drG,hs,ht',hg,gdL,fb,bou,bo',md3,z0d,hto,hlt,hlc,hlf,hr,hm,hl,bc,xl,xf,f1,f2,f3,c1,c2,c3,c4,c5,c6,c7,c8,c9,c10,c11,c12,read1]<;>rfl))
    exact⟨_,_,Yi,rfl,fun j hj=>by exact Ni⟩
   ·
    rw[hl] at bc
    rcases y with _|⟨y0,y⟩
    ·
     refine Ym Hh Tryz.f77 ?_
     repeat (first|apply Z6|apply Yx|apply Yc|((first|apply Goes.Zi|apply gO fits Hh (EY (EY Za (Vd Hh)) (Zd7 Hh))); · simp (maxSteps:=9^6) +decide (disch:=first|exact dZ|fail) only [go_sem,Zh,simprocAttr,hs,ht',hg,gdL,fb,bou,bo',md3,z0d,hto,hlt,hlc,hlf,hr,hm,hl,bc,xl,xf,f1,f2,f3,c1,c2,c3,c4,c5,c6,c7,c8,c9,c10,c11,c12,read1]<;>rfl)|(apply Goes.drawn2 fits Hh (EY (EY Za (Vd Hh)) (Zd7 Hh)) kR; · simp (maxSteps:=9^6) +decide (disch:=first|exact dZ|fail) only [go_sem,Zh,simprocAttr,drG,hs,ht',hg,gdL,fb,bou,bo',md3,z0d,hto,hlt,hlc,hlf,hr,hm,hl,bc,xl,xf,f1,f2,f3,c1,c2,c3,c4,c5,c6,c7,c8,c9,c10,c11,c12,read1]<;>rfl))
     exact⟨_,_,Yi,rfl,fun j hj=>by exact Ni⟩
    ·cases bc
  exact c.settle (((((Vn.refl tidy).put l1 (Z94 k2 k3 k4 k5 fbs false)).put k6 (M8 (Da rfl f1))).put k7 (M8 (Da xf f2))).put k8 (M8 (Zh3 f3))) (Zkb.flat rfl) hk
 ·cases e
end
end
end Go.Proofs.YtmanipmhebgdbaaGreatDoor
