/- Types of the program, as the evaluator has them. -/
import Derived.Test.YteiljiijagmonaaGreatDoorFits
set_option maxRecDepth 100000
set_option maxHeartbeats 4000000
set_option linter.unusedSimpArgs false
set_option linter.unusedVariables false
set_option linter.unusedSectionVars false
namespace Go.Proofs.YteiljiijagmonaaGreatDoor
open Go.Ev
theorem gl:K.globs=Tree.set .nil 0 0:=kR
theorem Oj:K.types.get 3=some ti3:=kR
theorem Es:ti3.size=1:=rfl
theorem Ei:ti3.agg=false:=rfl
theorem Q7:K.types.get 4=some ti4:=kR
theorem Zfb:ti4.size=1:=rfl
theorem Z5j:ti4.agg=false:=rfl
theorem Rh:K.types.get 5=some ti5:=kR
theorem Z9b:ti5.desc=.int .u8:=rfl
theorem Qz:ti5.size=1:=rfl
theorem Zez:ti5.agg=false:=rfl
theorem Z50:K.types.get 34=some ti34:=kR
theorem Z9c:ti34.desc=.int .u32:=rfl
theorem Ybe:ti34.size=1:=rfl
theorem Z8o:ti34.agg=false:=rfl
theorem Us:K.types.get 66=some ti66:=kR
theorem Z6p:ti66.desc=.array 256 5:=rfl
theorem Ga:ti66.size=256:=rfl
theorem Gx:ti66.agg=true:=rfl
theorem Sg:K.types.get 172=some ti172:=kR
theorem Qb:ti172.desc=.slice 4:=rfl
theorem Nk:K.types.get 141=some ti141:=kR
theorem Zl4:ti141.desc=.slice 5:=rfl
theorem Z76:ti141.size=1:=rfl
theorem Z54:ti141.agg=false:=rfl
theorem Zqc:K.types.get 350=some ti350:=kR
theorem Z3d:ti350.desc=.slice 141:=rfl
theorem Z45:K.types.get 351=some ti351:=kR
theorem Z6r:ti351.desc=.array 16 34:=rfl
theorem Zdp {v:Nat} (h:v<4294967296):Jb .u32 (v:Int)=.int .u32 (v:Int):=by
 unfold Jb IntKind.wrap
 congr 1
 show (if (false&&_)=true then _ else (v:Int) % 4294967296)=_
 simp only[Bool.false_and,Bool.false_eq_true,if_false]
 omega
theorem Zq5 {f:Nat->Nat->Nat} {a b:Nat} (ha:a<4294967296) (hb:b<4294967296) (hf:f a b<4294967296):Bc .u32 f (a:Int) (b:Int)=.int .u32 (f a b:Nat):=by
 have e1:((a:Int) % 2 ^ IntKind.bits .u32).toNat=a:=by show ((a:Int) % 4294967296).toNat=a; omega
 have e2:((b:Int) % 2 ^ IntKind.bits .u32).toNat=b:=by show ((b:Int) % 4294967296).toNat=b; omega
 unfold Bc
 rw[e1,e2]
 exact Zdp hf
theorem Zey {a b:Nat} (ha:a<4294967296) (hb:b<4294967296):Bc .u32 Nat.xor (a:Int) (b:Int)=.int .u32 (Nat.xor a b:Nat):=Zq5 ha hb (Nat.xor_lt_two_pow (n:=32) ha hb)
theorem Znz {a b:Nat} (ha:a<4294967296) (hb:b<4294967296):Nat.xor a b<4294967296:=Nat.xor_lt_two_pow (n:=32) ha hb
theorem Jl {a b:Prop} (x:a) (y:b):a/\b:=⟨x,y⟩
theorem Ju {a b c:Prop} (x:a) (y:b) (z:c):a/\b/\c:=⟨x,y,z⟩
theorem Um {a b c d:Prop} (x:a) (y:b) (z:c) (u:d):a/\b/\c/\d:=⟨x,y,z,u⟩
theorem Ej {a b c d e:Prop} (x:a) (y:b) (z:c) (u:d) (v:e):a/\b/\c/\d/\e:=⟨x,y,z,u,v⟩
theorem Nt {a b c d e f:Prop} (x:a) (y:b) (z:c) (u:d) (v:e) (w:f):a/\b/\c/\d/\e/\f:=⟨x,y,z,u,v,w⟩
theorem El {a b c d e f g:Prop} (x:a) (y:b) (z:c) (u:d) (v:e) (w:f) (s:g):a/\b/\c/\d/\e/\f/\g:=⟨x,y,z,u,v,w,s⟩
theorem Lg {a b c d e f g h:Prop} (x:a) (y:b) (z:c) (u:d) (v:e) (w:f) (s:g) (t:h):a/\b/\c/\d/\e/\f/\g/\h:=⟨x,y,z,u,v,w,s,t⟩
theorem Yw {a b c d e f g h i:Prop} (x:a) (y:b) (z:c) (u:d) (v:e) (w:f) (s:g) (t:h) (r:i):a/\b/\c/\d/\e/\f/\g/\h/\i:=⟨x,y,z,u,v,w,s,t,r⟩
theorem Fz {f:Go.FuncId} {args:List W} {h:Hq} {v0:V} {Q:Hq->Prop} (x:∃ v h',Zy K Tryz.prog f args h v h'/\v=v0/\Q h'):∃ h',Zy K Tryz.prog f args h v0 h'/\Q h':=by
 obtain⟨v,h',c,rfl,q⟩:=x
 exact⟨h',c,q⟩
theorem X0 {f:Go.FuncId} {args:List W} {h:Hq} {v0:V} (fl:v0.flat=true) (x:∃ v h',Zy K Tryz.prog f args h v h'/\v=v0/\∀ m,m<h.next->h'.get m=h.get m):Zy K Tryz.prog f args h v0 h:=by
 obtain⟨v,h',c,rfl,q⟩:=x
 exact c.quiet fl q
theorem Le {p:Prop} (g:p:=by (first|(simp (discharger:=omega) only [H.get_put,H.Zg,H.Dx,H.Zc,H.Zb,H.Yp,if_neg]; done)|(simp only[H.get_put,H.Zg,H.Dx,H.Zc,H.Zb,H.Yp]; (repeat' split)<;>first|rfl|(exfalso; omega)|omega))):p:=g
theorem nxQ {a b:Hq} {n:Nat} (e:a=b) (g:b.next=n:=by first|(simp only[H.Zb,H.Zc]; done)|rfl):a.next=n:=by rw[e]; exact g
theorem kQ {a b c:Hq} {k:Nat} (e:a=b) (g:∀ m,m<k->b.get m=c.get m:=by intro m hm; exact Jg):∀ m,m<k->a.get m=c.get m:=fun m hm=>by rw[e]; exact g m hm
theorem tY {p:Prop} (g:p:=by simp (decide:=true) only [Zo,reduceIte]):p:=g
theorem tX {p:Prop} (g:p:=by simp (decide:=true) only [Zo,reduceIte]<;>rfl):p:=g
theorem tZ {q p:Prop} (h:q) (g:q->p:=by intro h; simp (decide:=true) only [Zo,reduceIte,h]):p:=g h
abbrev Zi:=Zy K Tryz.prog
abbrev Z7:=Goes K Tryz.prog
section
variable (Hh:Hearts K Tryz.prog)
include Hh
theorem fnG {f:Go.FuncId} (fn:Go.Func) {body:Go.Code} {args:List W} {v:V} {h h':Hq} (g:Goes K Tryz.prog fn.ntmps none body [] (U2 0 args .nil) h fun x ds ts h1=>leave K fn (some (.at x ds ts h1))=some (.val v h')) (hc:K.clones.contains f=false:=by kernel_rfl) (hs:K.sorted.lookup f=none:=by kernel_rfl) (hf:K.funcs.get f=some fn:=by kernel_rfl) (hb:fn.body=some body:=by exact rfl) (hn:Nat.ble args.length fn.ntmps=true:=by exact rfl):Zy K Tryz.prog f args h v h':=Zy.goes fits Hh hc hs hf hb hn g
theorem Y0 {f:Go.FuncId} (fn:Go.Func) {body:Go.Code} {args:List W} {h:Hq} {R:V->Hq->Prop} (g:Goes K Tryz.prog fn.ntmps none body [] (U2 0 args .nil) h fun x ds ts h1=>∃ v h',leave K fn (some (.at x ds ts h1))=some (.val v h')/\R v h') (hc:K.clones.contains f=false:=by kernel_rfl) (hs:K.sorted.lookup f=none:=by kernel_rfl) (hf:K.funcs.get f=some fn:=by kernel_rfl) (hb:fn.body=some body:=by exact rfl) (hn:Nat.ble args.length fn.ntmps=true:=by exact rfl):∃ v h',Zy K Tryz.prog f args h v h'/\R v h':=Zy.Z9i fits Hh hc hs hf hb hn g
theorem Zr {n:Nat} {rd:Option Nat} {ds:Lq} {ts ts':Zw} {h h':Hq} {Q:Go.Ev.X->Lq->Zw->Hq->Prop} {id:Nat} {E:Task->Option Out} {ops:Array Go.Oper} (S:Sound K Tryz.prog E) (g:Nc K E ops.toList n ops.toList ts h=some (ts',h')) (q:Q .normal ds ts' h'):Goes K Tryz.prog n rd (.region id ops false) ds ts h Q:=Goes.ops2 fits Hh S g q
theorem G6 {n:Nat} {rd:Option Nat} {ds:Lq} {ts ts':Zw} {h h':Hq} {Q:Go.Ev.X->Lq->Zw->Hq->Prop} {id:Nat} {E:Task->Option Out} {ops:Array Go.Oper} (S:Sound K Tryz.prog E) (g:Zoq K ops.toList (Zcp K E ops.toList n 0 ops.toList ⟨ts,h,h,[],[]⟩)=some (ts',h')) (q:Q .normal ds ts' h') (st:(V5 0 ops.toList&&Xt ops.toList 0 ops.toList&&Ng ops.toList 0 none [] ops.toList)=true:=by kernel_rfl):Goes K Tryz.prog n rd (.region id ops true) ds ts h Q:=Goes.drawn2 fits Hh S st g q
end
theorem Jg {p:Prop} (g:p:=by simp (disch:=first|omega|(simp only[lens]<;>omega)) only [go_sem]):p:=g
theorem Y6 {p:Prop} (g:p:=by simp (maxSteps:=9^6) +decide (disch:=first|exact dZ|fail) only [go_sem,Zh,simprocAttr,Z4]<;>rfl):p:=g
theorem Z0 {p:Prop} (g:p:=by simp (maxSteps:=9^6) +decide (disch:=first|exact dZ|fail) only [go_sem,Zh,simprocAttr,Z4,Jf]<;>rfl):p:=g
theorem Zye {p:Prop} (g:p:=by simp (maxSteps:=9^6) +decide (disch:=first|exact dZ|fail) only [go_sem,Zh,simprocAttr,Z4,drG,Jf]<;>rfl):p:=g
theorem Z55 {p:Prop} (g:p:=by simp (maxSteps:=9^6) +decide (disch:=first|exact dZ|fail) only [go_sem,Zh,simprocAttr,Z4,Yy,Zt]<;>rfl):p:=g
theorem Ub {p:Prop} (g:p:=by simp (maxSteps:=9^6) +decide (disch:=first|exact dZ|fail) only [go_sem,Zh,simprocAttr,Z4,Yy,Zt,Jf]<;>rfl):p:=g
theorem Vw {p:Prop} (g:p:=by simp (maxSteps:=9^6) +decide (disch:=first|exact dZ|fail) only [go_sem,Zh,simprocAttr,Z4,Yy,Zt,Xj,List.map_cons,List.map_nil,List.cons_append,List.nil_append,Jf]<;>rfl):p:=g
theorem O1 {p:Prop} (g:p:=by simp (maxSteps:=9^6) +decide (disch:=first|exact dZ|fail) only [go_sem,Zh,simprocAttr,Z4,Yy,Zt,J5,Xj,List.map_cons,List.map_nil,List.cons_append,List.nil_append,Ni,N9,bound,Zcm,Jf]<;>rfl):p:=g
theorem Zgg {p:Prop} (g:p:=by simp (maxSteps:=9^6) +decide (disch:=first|exact dZ|fail) only [go_sem,Zh,simprocAttr,Z4,Yy,Zt,J5,Xj,List.map_cons,List.map_nil,List.cons_append,List.nil_append,Ni,N9,bound,Zcm,drG,Jf]<;>rfl):p:=g
theorem Gs {p:Prop} (g:p:=by simp (maxSteps:=9^6) +decide (disch:=first|exact dZ|fail) only [go_sem,Zh,simprocAttr,Z4,Yy,Zt,F6,Jf]<;>rfl):p:=g
theorem O3 {p:Prop} (g:p:=by simp (maxSteps:=9^6) +decide (disch:=first|exact dZ|fail) only [go_sem,Zh,simprocAttr,Z4,read1,Jf]<;>rfl):p:=g
theorem Zgh {p:Prop} (g:p:=by simp (maxSteps:=9^6) +decide (disch:=first|exact dZ|fail) only [go_sem,Zh,simprocAttr,Z4,read1,drG,Jf]<;>rfl):p:=g
theorem Zfo {p:Prop} (g:p:=by simp (maxSteps:=9^6) +decide (disch:=first|exact dZ|fail) only [go_sem,Zh,simprocAttr,Z4,read1,Yy,Zt,Jf]<;>rfl):p:=g
theorem Zyf {p:Prop} (g:p:=by simp (maxSteps:=9^6) +decide (disch:=first|exact dZ|fail) only [go_sem,Zh,simprocAttr,Z4,read1,Yy,Zt,drG,Jf]<;>rfl):p:=g
theorem Uq {p:Prop} (g:p:=by simp (maxSteps:=9^6) +decide (disch:=first|exact dZ|fail) only [go_sem,Zh,simprocAttr,Z4,read1,Yy,Zt,J5,Jf]<;>rfl):p:=g
theorem Wt {p:Prop} (g:p:=by simp (maxSteps:=9^6) +decide (disch:=first|exact dZ|fail) only [go_sem,Zh,simprocAttr,Z4,read1,Yy,Zt,J5,drG,Jf]<;>rfl):p:=g
theorem Zf {p:Prop} (g:p:=by simp (maxSteps:=9^6) +decide (disch:=first|exact dZ|fail) only [go_sem,Zk,Zh,simprocAttr,Z4]<;>rfl):p:=g
theorem Zn {p:Prop} (g:p:=by simp (maxSteps:=9^6) +decide (disch:=first|exact dZ|fail) only [go_sem,Zk,Zh,simprocAttr,Z4,Jf]<;>rfl):p:=g
theorem Tc {p:Prop} (g:p:=by simp (maxSteps:=9^6) +decide (disch:=first|exact dZ|fail) only [go_sem,Zk,Zh,simprocAttr,Z4,drG,Jf]<;>rfl):p:=g
theorem Sm {p:Prop} (g:p:=by simp (maxSteps:=9^6) +decide (disch:=first|exact dZ|fail) only [go_sem,Zk,Zh,simprocAttr,Z4,Yy,Zt]<;>rfl):p:=g
theorem Zcd {p:Prop} (g:p:=by simp (maxSteps:=9^6) +decide (disch:=first|exact dZ|fail) only [go_sem,Zk,Zh,simprocAttr,Z4,Yy,Zt,Jf]<;>rfl):p:=g
theorem Ur {p:Prop} (g:p:=by simp (maxSteps:=9^6) +decide (disch:=first|exact dZ|fail) only [go_sem,Zk,Zh,simprocAttr,Z4,Yy,Zt,J5,Jf]<;>rfl):p:=g
theorem Zfp {p:Prop} (g:p:=by simp (maxSteps:=9^6) +decide (disch:=first|exact dZ|fail) only [go_sem,Zk,Zh,simprocAttr,Z4,Yy,Zt,Xj,List.map_cons,List.map_nil,List.cons_append,List.nil_append,Jf]<;>rfl):p:=g
theorem Zyh {p:Prop} (g:p:=by simp (maxSteps:=9^6) +decide (disch:=first|exact dZ|fail) only [go_sem,Zk,Zh,simprocAttr,Z4,Yy,Zt,Xj,List.map_cons,List.map_nil,List.cons_append,List.nil_append,drG,Jf]<;>rfl):p:=g
theorem Zaa {p:Prop} (g:p:=by simp (maxSteps:=9^6) +decide (disch:=first|exact dZ|fail) only [go_sem,Zk,Zh,simprocAttr,Z4,Yy,Zt,Xj,List.map_cons,List.map_nil,List.cons_append,List.nil_append,Ni,N9,bound,Zcm,Jf]<;>rfl):p:=g
theorem Z56 {p:Prop} (g:p:=by simp (maxSteps:=9^6) +decide (disch:=first|exact dZ|fail) only [go_sem,Zk,Zh,simprocAttr,Z4,read1]<;>rfl):p:=g
theorem Z6 {p:Prop} (g:p:=by simp (maxSteps:=9^6) +decide (disch:=first|exact dZ|fail) only [go_sem,Zk,Zh,simprocAttr,Z4,read1,Jf]<;>rfl):p:=g
theorem Mf {p:Prop} (g:p:=by simp (maxSteps:=9^6) +decide (disch:=first|exact dZ|fail) only [go_sem,Zk,Zh,simprocAttr,Z4,read1,drG,Jf]<;>rfl):p:=g
theorem Zab {p:Prop} (g:p:=by simp (maxSteps:=9^6) +decide (disch:=first|exact dZ|fail) only [go_sem,Zk,Zh,simprocAttr,Z4,read1,Yy,Zt,Jf]<;>rfl):p:=g
theorem Bi {p:Prop} (g:p:=by simp (maxSteps:=9^6) +decide (disch:=first|exact dZ|fail) only [go_sem,Zk,Zh,simprocAttr,Z4,read1,Yy,Zt,J5,Jf]<;>rfl):p:=g
theorem Ew {p:Prop} (g:p:=by simp (maxSteps:=9^6) +decide (disch:=first|exact dZ|fail) only [go_sem,Zk,Zh,simprocAttr,Z4,read1,Yy,Zt,Xj,List.map_cons,List.map_nil,List.cons_append,List.nil_append,Jf]<;>rfl):p:=g
theorem Ztx {p:Prop} (g:p:=by simp (maxSteps:=9^6) +decide (disch:=first|exact dZ|fail) only [go_sem,Zk,Zh,simprocAttr,Z4,Z5,Jf]<;>rfl):p:=g
theorem Zty {p:Prop} (g:p:=by simp (maxSteps:=9^6) +decide (disch:=first|exact dZ|fail) only [go_sem,Zk,Zh,simprocAttr,Z4,Z5,Yy,Zt,Xj,List.map_cons,List.map_nil,List.cons_append,List.nil_append,Jf]<;>rfl):p:=g
theorem Gu {p:Prop} (g:p:=by simp (maxSteps:=9^6) +decide (disch:=first|exact dZ|fail) only [go_sem,Zk,Zh,simprocAttr,Z4,read1,Z5,Jf]<;>rfl):p:=g
theorem Zgi {p:Prop} (g:p:=by simp (maxSteps:=9^6) +decide (disch:=first|exact dZ|fail) only [go_sem,Zk,Zh,simprocAttr,Z4,read1,Z5,drG,Jf]<;>rfl):p:=g
theorem Z57 {p:Prop} (g:p:=by simp (maxSteps:=9^6) +decide (disch:=first|exact dZ|fail) only [go_sem,Zk,Zh,simprocAttr,Z4,read1,Z5,Yy,Zt]<;>rfl):p:=g
theorem Zac {p:Prop} (g:p:=by simp (maxSteps:=9^6) +decide (disch:=first|exact dZ|fail) only [go_sem,Zk,Zh,simprocAttr,Z4,read1,Z5,Yy,Zt,Jf]<;>rfl):p:=g
theorem Zgj {p:Prop} (g:p:=by simp (maxSteps:=9^6) +decide (disch:=first|exact dZ|fail) only [go_sem,Zk,Zh,simprocAttr,Z4,read1,Z5,Yy,Zt,drG,Jf]<;>rfl):p:=g
theorem Zfq {p:Prop} (g:p:=by simp (maxSteps:=9^6) +decide (disch:=first|exact dZ|fail) only [go_sem,Zk,Zh,simprocAttr,Z4,read1,Z5,Yy,Zt,J5,Jf]<;>rfl):p:=g
theorem Zgk {p:Prop} (g:p:=by simp (maxSteps:=9^6) +decide (disch:=first|exact dZ|fail) only [go_sem,Zk,Zh,simprocAttr,Z4,read1,Z5,Yy,Zt,J5,drG,Jf]<;>rfl):p:=g
theorem Du {p:Prop} (g:p:=by simp (maxSteps:=9^6) +decide (disch:=first|exact dZ|fail) only [go_sem,Zk,Zh,simprocAttr,Z4,read1,Z5,Yy,Zt,Xj,List.map_cons,List.map_nil,List.cons_append,List.nil_append,Jf]<;>rfl):p:=g
theorem Zgl {p:Prop} (g:p:=by simp (maxSteps:=9^6) +decide (disch:=first|exact dZ|fail) only [go_sem,Zk,Zh,simprocAttr,Z4,read1,Z5,Yy,Zt,Xj,List.map_cons,List.map_nil,List.cons_append,List.nil_append,drG,Jf]<;>rfl):p:=g
theorem Dv {p:Prop} (g:p:=by simp (maxSteps:=9^6) +decide (disch:=first|exact dZ|fail) only [go_sem,Zk,Zh,simprocAttr,Z4,read1,Z5,Yy,Zt,Xj,List.map_cons,List.map_nil,List.cons_append,List.nil_append,Ni,N9,bound,Zcm,Jf]<;>rfl):p:=g
open Go.Ev
theorem ty3:K.types.get 3=some ti3:=kR
theorem sz3:ti3.size=1:=by rfl
theorem ag3:ti3.agg=false:=by rfl
theorem de3:ti3.desc=(.int .i64):=by rfl
theorem ze3:ti3.zero=(.c (.int .i64 0)):=by rfl
theorem by3:ti3.bytes=8:=by rfl
theorem ke3 (k:IntKind) (n:Int):Fe K 20 3 (.c (.int k n))=true:=kR
theorem ty40:K.types.get 40=some ti40:=kR
theorem sz40:ti40.size=1:=by rfl
theorem ag40:ti40.agg=false:=by rfl
theorem de40:ti40.desc=(.slice 3):=by rfl
theorem ze40:ti40.zero=(.c (.snil)):=by rfl
theorem by40:ti40.bytes=24:=by rfl
theorem el40:Y7 K 40=some ti3:=kR
attribute [go_sem] ty3 sz3 ag3 de3 ze3 by3 ke3 ty40 sz40 ag40 de40 ze40 by40 el40
theorem rs82:Tryz.f82.results.toList=[.tmp 4]:=rfl
theorem rs37:Tryz.f37.results.toList=[.tmp 4]:=rfl
attribute [go_sem] rs82 rs37
def rwI (l:Lq):List (List C):=l.map fun (x:Nat)=>[.int .i64 (x:Int)]
theorem Sb (l:Lq):(rwI l).length=l.length:=by simp [rwI]
theorem Z75 {l:Lq} {k x:Nat} (h:l[k]? = some x):(rwI l)[k]? = some [.int .i64 (x:Int)]:=by simp [rwI,h]
theorem rdI {l:Lq} {k x:Nat} (h:l[k]? = some x):read1 1 (rwI l) k=some (.int .i64 (x:Int)):=by
 have:=Mr (sz:=1) (i:=k) (j:=0) oM (Z75 h)
 rw[Nat.mul_one,Nat.add_zero] at this
 exact this
def SlI (h:Hq) (c:C) (l:Lq):Prop:=(l=[]/\c=.snil)\/∃ p,0<l.length/\c=.slice p 0 l.length 1/\h.get p=some (.row 1 (rwI l) false)
theorem SlI.keep {h h2:Hq} {c:C} {l:Lq} (s:SlI h c l) (k:∀ p o n z,c=.slice p o n z->h2.get p=h.get p):SlI h2 c l:=by
 rcases s with s|⟨p,h1,rfl,h2⟩
 ·exact .inl s
 ·exact .inr ⟨p,h1,rfl,(k _ _ _ _ rfl).trans h2⟩
theorem Xf (p o l:Nat):Yx K 40 (.c (.slice p o l 1))=true:=kR
theorem Zuo:Yx K 40 (.c .snil)=true:=kR
section
variable (Hh:Hearts K Tryz.prog)
include Hh
end
theorem Z5z:K.types.get 40=some ti40:=kR
theorem Zm8 (n off len sz:Nat):Jp K 40 (.slice n off len sz)=true:=by unfold Jp; rw[Z5z]; rfl
theorem Z4w:Jp K 40 .snil=true:=by unfold Jp; rw[Z5z]; rfl
theorem Z8u:ti3.bytes=8:=rfl
theorem Z96:ti3.size=1:=rfl
theorem Zyo (h:Hq) (c:C):Jn h 1 (some ti3) (some [(0,.c c)])=some (.w (.c (.slice h.next 0 1 1)),h.new (.row 1 [[c]] false)):=rfl
theorem Z5p {h:Hq} {n:Nat} {L:List (List C)} (x:List C) (ho:h.get n=some (.row 1 L false)) (hn:n<h.next) (hl:L.length<=4000) :
  Oh (h.new (.row 1 [x] false)) (some ti3) (.slice n 0 L.length 1) (.slice h.next 0 1 1)=some (.w (.c (.slice (h.next+1) 0 (L.length+1) 1)),((h.new (.row 1 [x] false)).del n).new (.row 1 (L++[x]) false)) :=
 Zjv (M:=[x]) Z96 (by rw[H.Zg,if_neg oM]; exact ho) (by rw[H.Zg,if_pos rfl]) (by simp) (by rw[Z8u]; show (L.length+1) * 8<=_; omega) (by show L.length+1<=_; omega)
theorem Zzd {h:Hq} (x:List C) :
  Oh (h.new (.row 1 [x] false)) (some ti3) .snil (.slice h.next 0 1 1)=some (.w (.c (.slice (h.next+1) 0 1 1)),(h.new (.row 1 [x] false)).new (.row 1 [x] false)) :=
 append_nil (M:=[x]) Z96 (by rw[H.Zg,if_pos rfl]) (by simp) (by rw[Z8u]; show 1 * 8<=_; omega) (by show 1<=_; omega)
theorem Zp6 (l:Lq) (x:Nat):rwI l++[[.int .i64 (x:Int)]]=rwI (l++[x]):=by simp [rwI]
theorem Yaa {h:Hq} {c:C} {l:Lq} (s:SlI h c l):Jp K 40 c=true:=by
 rcases s with ⟨_,rfl⟩|⟨p,_,rfl,_⟩
 ·exact Z4w
 ·exact Zm8 ..
theorem Zrs {h:Hq} {c:C} {l:Lq} (s:SlI h c l):Yx K 40 (.c c)=true/\∀ h,J5 K h 40 (.c c)=some (.int .i64 (l.length:Nat)):=by
 rcases s with ⟨rfl,rfl⟩|⟨p,_,rfl,_⟩
 ·exact⟨Zuo,fun _=>rfl⟩
 ·exact⟨Xf ..,fun _=>rfl⟩
end Go.Proofs.YteiljiijagmonaaGreatDoor
