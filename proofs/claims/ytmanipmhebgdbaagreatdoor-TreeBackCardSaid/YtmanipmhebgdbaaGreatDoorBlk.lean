/- Types of the program, as the evaluator has them. -/
import Derived.Test.YtmanipmhebgdbaaGreatDoorFits
set_option maxRecDepth 100000
set_option linter.unusedSimpArgs false
set_option linter.unusedVariables false
set_option linter.unusedSectionVars false
namespace Go.Proofs.YtmanipmhebgdbaaGreatDoor
open Go.Ev
theorem gl:K.globs=Tree.set .nil 1 0:=kR
theorem O4:K.types.get 3=some ti3:=kR
theorem Ff:ti3.size=1:=rfl
theorem Ey:ti3.agg=false:=rfl
theorem Zao:K.types.get 4=some ti4:=kR
theorem Zf5:ti4.size=1:=rfl
theorem Z8b:ti4.agg=false:=rfl
theorem Sy:K.types.get 5=some ti5:=kR
theorem Yb6:ti5.desc=.int .u8:=rfl
theorem Zan:ti5.size=1:=rfl
theorem Zfq:ti5.agg=false:=rfl
theorem Z8u:K.types.get 40=some ti40:=kR
theorem Yb8:ti40.desc=.int .u32:=rfl
theorem Yep:ti40.size=1:=rfl
theorem Ybj:ti40.agg=false:=rfl
theorem U9:K.types.get 87=some ti87:=kR
theorem Z9f:ti87.desc=.array 256 5:=rfl
theorem Gu:ti87.size=256:=rfl
theorem Bc:ti87.agg=true:=rfl
theorem Tw:K.types.get 184=some ti184:=kR
theorem Qy:ti184.desc=.slice 4:=rfl
theorem Rt:K.types.get 73=some ti73:=kR
theorem Zm7:ti73.desc=.slice 5:=rfl
theorem Yau:ti73.size=1:=rfl
theorem Z81:ti73.agg=false:=rfl
theorem Zrn:K.types.get 454=some ti454:=kR
theorem Z5p:ti454.desc=.slice 73:=rfl
theorem Z7v:K.types.get 455=some ti455:=kR
theorem Z9h:ti455.desc=.array 16 40:=rfl
theorem Zdz {v:Nat} (h:v<4294967296):Jm .u32 (v:Int)=.int .u32 (v:Int):=by
 unfold Jm IntKind.wrap
 congr 1
 show (if (false&&_)=true then _ else (v:Int) % 4294967296)=_
 simp only[Bool.false_and,Bool.false_eq_true,if_false]
 omega
theorem Zsj {f:Nat->Nat->Nat} {a b:Nat} (ha:a<4294967296) (hb:b<4294967296) (hf:f a b<4294967296):De .u32 f (a:Int) (b:Int)=.int .u32 (f a b:Nat):=by
 have e1:((a:Int) % 2 ^ IntKind.bits .u32).toNat=a:=by show ((a:Int) % 4294967296).toNat=a; omega
 have e2:((b:Int) % 2 ^ IntKind.bits .u32).toNat=b:=by show ((b:Int) % 4294967296).toNat=b; omega
 unfold De
 rw[e1,e2]
 exact Zdz hf
theorem Zfo {a b:Nat} (ha:a<4294967296) (hb:b<4294967296):De .u32 Nat.xor (a:Int) (b:Int)=.int .u32 (Nat.xor a b:Nat):=Zsj ha hb (Nat.xor_lt_two_pow (n:=32) ha hb)
theorem Zo7 {a b:Nat} (ha:a<4294967296) (hb:b<4294967296):Nat.xor a b<4294967296:=Nat.xor_lt_two_pow (n:=32) ha hb
theorem Y2 {a b:Prop} (x:a) (y:b):a/\b:=⟨x,y⟩
theorem Jh {a b c:Prop} (x:a) (y:b) (z:c):a/\b/\c:=⟨x,y,z⟩
theorem J4 {a b c d:Prop} (x:a) (y:b) (z:c) (u:d):a/\b/\c/\d:=⟨x,y,z,u⟩
theorem Gq {a b c d e:Prop} (x:a) (y:b) (z:c) (u:d) (v:e):a/\b/\c/\d/\e:=⟨x,y,z,u,v⟩
theorem L8 {a b c d e f:Prop} (x:a) (y:b) (z:c) (u:d) (v:e) (w:f):a/\b/\c/\d/\e/\f:=⟨x,y,z,u,v,w⟩
theorem Ng {a b c d e f g:Prop} (x:a) (y:b) (z:c) (u:d) (v:e) (w:f) (s:g):a/\b/\c/\d/\e/\f/\g:=⟨x,y,z,u,v,w,s⟩
theorem Vr {a b c d e f g h:Prop} (x:a) (y:b) (z:c) (u:d) (v:e) (w:f) (s:g) (t:h):a/\b/\c/\d/\e/\f/\g/\h:=⟨x,y,z,u,v,w,s,t⟩
theorem Yp {a b c d e f g h i:Prop} (x:a) (y:b) (z:c) (u:d) (v:e) (w:f) (s:g) (t:h) (r:i):a/\b/\c/\d/\e/\f/\g/\h/\i:=⟨x,y,z,u,v,w,s,t,r⟩
theorem Ow {f:Go.FuncId} {args:List W} {h:Hq} {v0:V} {Q:Hq->Prop} (x:∃ v h',Zx K Tryz.prog f args h v h'/\v=v0/\Q h'):∃ h',Zx K Tryz.prog f args h v0 h'/\Q h':=by
 obtain⟨v,h',c,rfl,q⟩:=x
 exact⟨h',c,q⟩
theorem Dx {f:Go.FuncId} {args:List W} {h:Hq} {v0:V} (fl:v0.flat=true) (x:∃ v h',Zx K Tryz.prog f args h v h'/\v=v0/\∀ m,m<h.next->h'.get m=h.get m):Zx K Tryz.prog f args h v0 h:=by
 obtain⟨v,h',c,rfl,q⟩:=x
 exact c.quiet fl q
theorem Ni {p:Prop} (g:p:=by (first|(simp (discharger:=omega) only [H.get_put,H.Zp,H.D5,H.Ze,H.Zf,H.Yv,if_neg]; done)|(simp only[H.get_put,H.Zp,H.D5,H.Ze,H.Zf,H.Yv]; (repeat' split)<;>first|rfl|(exfalso; omega)|omega))):p:=g
theorem nxQ {a b:Hq} {n:Nat} (e:a=b) (g:b.next=n:=by first|(simp only[H.Zf,H.Ze]; done)|rfl):a.next=n:=by rw[e]; exact g
theorem kQ {a b c:Hq} {k:Nat} (e:a=b) (g:∀ m,m<k->b.get m=c.get m:=by intro m hm; exact Yn):∀ m,m<k->a.get m=c.get m:=fun m hm=>by rw[e]; exact g m hm
theorem tY {p:Prop} (g:p:=by simp (decide:=true) only [Zo,reduceIte]):p:=g
theorem tX {p:Prop} (g:p:=by simp (decide:=true) only [Zo,reduceIte]<;>rfl):p:=g
theorem tZ {q p:Prop} (h:q) (g:q->p:=by intro h; simp (decide:=true) only [Zo,reduceIte,h]):p:=g h
abbrev Zb:=Zx K Tryz.prog
abbrev Z9:=Goes K Tryz.prog
section
variable (Hh:Hearts K Tryz.prog)
include Hh
theorem fnG {f:Go.FuncId} (fn:Go.Func) {body:Go.Code} {args:List W} {v:V} {h h':Hq} (g:Goes K Tryz.prog fn.ntmps none body [] (Ug 0 args .nil) h fun x ds ts h1=>leave K fn (some (.at x ds ts h1))=some (.val v h')) (hc:K.clones.contains f=false:=by kernel_rfl) (hs:K.sorted.lookup f=none:=by kernel_rfl) (hf:K.funcs.get f=some fn:=by kernel_rfl) (hb:fn.body=some body:=by exact rfl) (hn:Nat.ble args.length fn.ntmps=true:=by exact rfl):Zx K Tryz.prog f args h v h':=Zx.goes fits Hh hc hs hf hb hn g
theorem Ym {f:Go.FuncId} (fn:Go.Func) {body:Go.Code} {args:List W} {h:Hq} {R:V->Hq->Prop} (g:Goes K Tryz.prog fn.ntmps none body [] (Ug 0 args .nil) h fun x ds ts h1=>∃ v h',leave K fn (some (.at x ds ts h1))=some (.val v h')/\R v h') (hc:K.clones.contains f=false:=by kernel_rfl) (hs:K.sorted.lookup f=none:=by kernel_rfl) (hf:K.funcs.get f=some fn:=by kernel_rfl) (hb:fn.body=some body:=by exact rfl) (hn:Nat.ble args.length fn.ntmps=true:=by exact rfl):∃ v h',Zx K Tryz.prog f args h v h'/\R v h':=Zx.Ych fits Hh hc hs hf hb hn g
theorem Zn {n:Nat} {rd:Option Nat} {ds:Lq} {ts ts':Zv} {h h':Hq} {Q:Go.Ev.X->Lq->Zv->Hq->Prop} {id:Nat} {E:Task->Option Out} {ops:Array Go.Oper} (S:Sound K Tryz.prog E) (g:Fw K E ops.toList n ops.toList ts h=some (ts',h')) (q:Q .normal ds ts' h'):Goes K Tryz.prog n rd (.region id ops false) ds ts h Q:=gO fits Hh S g q
theorem Fe {n:Nat} {rd:Option Nat} {ds:Lq} {ts ts':Zv} {h h':Hq} {Q:Go.Ev.X->Lq->Zv->Hq->Prop} {id:Nat} {E:Task->Option Out} {ops:Array Go.Oper} (S:Sound K Tryz.prog E) (g:Zp2 K ops.toList (Zcv K E ops.toList n 0 ops.toList ⟨ts,h,h,[],[]⟩)=some (ts',h')) (q:Q .normal ds ts' h') (st:(X3 0 ops.toList&&Ww ops.toList 0 ops.toList&&Rk ops.toList 0 none [] ops.toList)=true:=by kernel_rfl):Goes K Tryz.prog n rd (.region id ops true) ds ts h Q:=Goes.drawn2 fits Hh S st g q
end
theorem Yn {p:Prop} (g:p:=by simp (disch:=first|omega|(simp only[lens]<;>omega)) only [go_sem]):p:=g
theorem Yi {p:Prop} (g:p:=by simp (maxSteps:=9^6) +decide (disch:=first|exact dZ|fail) only [go_sem,Zh,simprocAttr,Z7]<;>rfl):p:=g
theorem Zt {p:Prop} (g:p:=by simp (maxSteps:=9^6) +decide (disch:=first|exact dZ|fail) only [go_sem,Zh,simprocAttr,Z7,Jf]<;>rfl):p:=g
theorem Zpi {p:Prop} (g:p:=by simp (maxSteps:=9^6) +decide (disch:=first|exact dZ|fail) only [go_sem,Zh,simprocAttr,Z7,drG,Jf]<;>rfl):p:=g
theorem Oq {p:Prop} (g:p:=by simp (maxSteps:=9^6) +decide (disch:=first|exact dZ|fail) only [go_sem,Zh,simprocAttr,Z7,Yt,Zr,Jf]<;>rfl):p:=g
theorem Zz0 {p:Prop} (g:p:=by simp (maxSteps:=9^6) +decide (disch:=first|exact dZ|fail) only [go_sem,Zh,simprocAttr,Z7,Yt,Zr,drG,Jf]<;>rfl):p:=g
theorem Tj {p:Prop} (g:p:=by simp (maxSteps:=9^6) +decide (disch:=first|exact dZ|fail) only [go_sem,Zh,simprocAttr,Z7,Yt,Zr,Jl,Jf]<;>rfl):p:=g
theorem Z4z {p:Prop} (g:p:=by simp (maxSteps:=9^6) +decide (disch:=first|exact dZ|fail) only [go_sem,Zh,simprocAttr,Z7,Yt,Zr,Xf,List.map_cons,List.map_nil,List.cons_append,List.nil_append,Jf]<;>rfl):p:=g
theorem Y8 {p:Prop} (g:p:=by simp (maxSteps:=9^6) +decide (disch:=first|exact dZ|fail) only [go_sem,Zh,simprocAttr,Z7,Yt,Zr,Jl,Xf,List.map_cons,List.map_nil,List.cons_append,List.nil_append,Uj,Bf,bound,Dy,Jf]<;>rfl):p:=g
theorem Zpj {p:Prop} (g:p:=by simp (maxSteps:=9^6) +decide (disch:=first|exact dZ|fail) only [go_sem,Zh,simprocAttr,Z7,Yt,Zr,Jl,Xf,List.map_cons,List.map_nil,List.cons_append,List.nil_append,Uj,Bf,bound,Dy,drG,Jf]<;>rfl):p:=g
theorem Le {p:Prop} (g:p:=by simp (maxSteps:=9^6) +decide (disch:=first|exact dZ|fail) only [go_sem,Zh,simprocAttr,Z7,Yt,Zr,Jl,Xf,List.map_cons,List.map_nil,List.cons_append,List.nil_append,Uj,Bf,bound,Dy,reaches,Jf]<;>rfl):p:=g
theorem Fh {p:Prop} (g:p:=by simp (maxSteps:=9^6) +decide (disch:=first|exact dZ|fail) only [go_sem,Zh,simprocAttr,Z7,Yt,Zr,Xf,List.map_cons,List.map_nil,List.cons_append,List.nil_append,Uj,Bf,bound,Dy,reaches,Jf]<;>rfl):p:=g
theorem Zz1 {p:Prop} (g:p:=by simp (maxSteps:=9^6) +decide (disch:=first|exact dZ|fail) only [go_sem,Zh,simprocAttr,Z7,Yt,Zr,Xf,List.map_cons,List.map_nil,List.cons_append,List.nil_append,Uj,Bf,bound,Dy,reaches,drG,Jf]<;>rfl):p:=g
theorem Bb {p:Prop} (g:p:=by simp (maxSteps:=9^6) +decide (disch:=first|exact dZ|fail) only [go_sem,Zh,simprocAttr,Z7,Yt,Zr,Na,Jf]<;>rfl):p:=g
theorem Uq {p:Prop} (g:p:=by simp (maxSteps:=9^6) +decide (disch:=first|exact dZ|fail) only [go_sem,Zh,simprocAttr,Z7,read1,Jf]<;>rfl):p:=g
theorem Zpk {p:Prop} (g:p:=by simp (maxSteps:=9^6) +decide (disch:=first|exact dZ|fail) only [go_sem,Zh,simprocAttr,Z7,read1,drG,Jf]<;>rfl):p:=g
theorem Jk {p:Prop} (g:p:=by simp (maxSteps:=9^6) +decide (disch:=first|exact dZ|fail) only [go_sem,Zh,simprocAttr,Z7,read1,Yt,Zr,Jf]<;>rfl):p:=g
theorem Zz2 {p:Prop} (g:p:=by simp (maxSteps:=9^6) +decide (disch:=first|exact dZ|fail) only [go_sem,Zh,simprocAttr,Z7,read1,Yt,Zr,drG,Jf]<;>rfl):p:=g
theorem Gj {p:Prop} (g:p:=by simp (maxSteps:=9^6) +decide (disch:=first|exact dZ|fail) only [go_sem,Zh,simprocAttr,Z7,read1,Yt,Zr,Jl,Jf]<;>rfl):p:=g
theorem Zhc {p:Prop} (g:p:=by simp (maxSteps:=9^6) +decide (disch:=first|exact dZ|fail) only [go_sem,Zh,simprocAttr,Z7,read1,Yt,Zr,Jl,drG,Jf]<;>rfl):p:=g
theorem Mt {p:Prop} (g:p:=by simp (maxSteps:=9^6) +decide (disch:=first|exact dZ|fail) only [go_sem,Zh,simprocAttr,Z7,read1,Yt,Zr,Xf,List.map_cons,List.map_nil,List.cons_append,List.nil_append,Jf]<;>rfl):p:=g
theorem Zz3 {p:Prop} (g:p:=by simp (maxSteps:=9^6) +decide (disch:=first|exact dZ|fail) only [go_sem,Zh,simprocAttr,Z7,read1,Yt,Zr,Xf,List.map_cons,List.map_nil,List.cons_append,List.nil_append,drG,Jf]<;>rfl):p:=g
theorem Zd {p:Prop} (g:p:=by simp (maxSteps:=9^6) +decide (disch:=first|exact dZ|fail) only [go_sem,Zm,Zh,simprocAttr,Z7]<;>rfl):p:=g
theorem Zq {p:Prop} (g:p:=by simp (maxSteps:=9^6) +decide (disch:=first|exact dZ|fail) only [go_sem,Zm,Zh,simprocAttr,Z7,Jf]<;>rfl):p:=g
theorem Vs {p:Prop} (g:p:=by simp (maxSteps:=9^6) +decide (disch:=first|exact dZ|fail) only [go_sem,Zm,Zh,simprocAttr,Z7,drG,Jf]<;>rfl):p:=g
theorem Fq {p:Prop} (g:p:=by simp (maxSteps:=9^6) +decide (disch:=first|exact dZ|fail) only [go_sem,Zm,Zh,simprocAttr,Z7,Yt,Zr]<;>rfl):p:=g
theorem Zas {p:Prop} (g:p:=by simp (maxSteps:=9^6) +decide (disch:=first|exact dZ|fail) only [go_sem,Zm,Zh,simprocAttr,Z7,Yt,Zr,Jf]<;>rfl):p:=g
theorem Zmv {p:Prop} (g:p:=by simp (maxSteps:=9^6) +decide (disch:=first|exact dZ|fail) only [go_sem,Zm,Zh,simprocAttr,Z7,Yt,Zr,Jl]<;>rfl):p:=g
theorem Ui {p:Prop} (g:p:=by simp (maxSteps:=9^6) +decide (disch:=first|exact dZ|fail) only [go_sem,Zm,Zh,simprocAttr,Z7,Yt,Zr,Jl,Jf]<;>rfl):p:=g
theorem Zgi {p:Prop} (g:p:=by simp (maxSteps:=9^6) +decide (disch:=first|exact dZ|fail) only [go_sem,Zm,Zh,simprocAttr,Z7,Yt,Zr,Xf,List.map_cons,List.map_nil,List.cons_append,List.nil_append,Uj,Bf,bound,Dy,reaches,Jf]<;>rfl):p:=g
theorem Zat {p:Prop} (g:p:=by simp (maxSteps:=9^6) +decide (disch:=first|exact dZ|fail) only [go_sem,Zm,Zh,simprocAttr,Z7,Yt,Zr,Xf,List.map_cons,List.map_nil,List.cons_append,List.nil_append,Uj,Bf,bound,Dy,Jf]<;>rfl):p:=g
theorem Zmw {p:Prop} (g:p:=by simp (maxSteps:=9^6) +decide (disch:=first|exact dZ|fail) only [go_sem,Zm,Zh,simprocAttr,Z7,read1]<;>rfl):p:=g
theorem Ye {p:Prop} (g:p:=by simp (maxSteps:=9^6) +decide (disch:=first|exact dZ|fail) only [go_sem,Zm,Zh,simprocAttr,Z7,read1,Jf]<;>rfl):p:=g
theorem Zz6 {p:Prop} (g:p:=by simp (maxSteps:=9^6) +decide (disch:=first|exact dZ|fail) only [go_sem,Zm,Zh,simprocAttr,Z7,read1,drG,Jf]<;>rfl):p:=g
theorem Z83 {p:Prop} (g:p:=by simp (maxSteps:=9^6) +decide (disch:=first|exact dZ|fail) only [go_sem,Zm,Zh,simprocAttr,Z7,read1,Yt,Zr]<;>rfl):p:=g
theorem Oj {p:Prop} (g:p:=by simp (maxSteps:=9^6) +decide (disch:=first|exact dZ|fail) only [go_sem,Zm,Zh,simprocAttr,Z7,read1,Yt,Zr,Jf]<;>rfl):p:=g
theorem Zhd {p:Prop} (g:p:=by simp (maxSteps:=9^6) +decide (disch:=first|exact dZ|fail) only [go_sem,Zm,Zh,simprocAttr,Z7,read1,Yt,Zr,drG,Jf]<;>rfl):p:=g
theorem Rj {p:Prop} (g:p:=by simp (maxSteps:=9^6) +decide (disch:=first|exact dZ|fail) only [go_sem,Zm,Zh,simprocAttr,Z7,read1,Yt,Zr,Jl,Jf]<;>rfl):p:=g
theorem Z40 {p:Prop} (g:p:=by simp (maxSteps:=9^6) +decide (disch:=first|exact dZ|fail) only [go_sem,Zm,Zh,simprocAttr,Z7,read1,Yt,Zr,Xf,List.map_cons,List.map_nil,List.cons_append,List.nil_append,Jf]<;>rfl):p:=g
theorem Z84 {p:Prop} (g:p:=by simp (maxSteps:=9^6) +decide (disch:=first|exact dZ|fail) only [go_sem,Zm,Zh,simprocAttr,Z7,Z0]<;>rfl):p:=g
theorem Zvi {p:Prop} (g:p:=by simp (maxSteps:=9^6) +decide (disch:=first|exact dZ|fail) only [go_sem,Zm,Zh,simprocAttr,Z7,Z0,Jf]<;>rfl):p:=g
theorem Zsg {p:Prop} (g:p:=by simp (maxSteps:=9^6) +decide (disch:=first|exact dZ|fail) only [go_sem,Zm,Zh,simprocAttr,Z7,Z0,Yt,Zr]<;>rfl):p:=g
theorem Zgj {p:Prop} (g:p:=by simp (maxSteps:=9^6) +decide (disch:=first|exact dZ|fail) only [go_sem,Zm,Zh,simprocAttr,Z7,Z0,Yt,Zr,Xf,List.map_cons,List.map_nil,List.cons_append,List.nil_append,Jf]<;>rfl):p:=g
theorem Zz7 {p:Prop} (g:p:=by simp (maxSteps:=9^6) +decide (disch:=first|exact dZ|fail) only [go_sem,Zm,Zh,simprocAttr,Z7,Z0,Yt,Zr,Xf,List.map_cons,List.map_nil,List.cons_append,List.nil_append,drG,Jf]<;>rfl):p:=g
theorem Zmx {p:Prop} (g:p:=by simp (maxSteps:=9^6) +decide (disch:=first|exact dZ|fail) only [go_sem,Zm,Zh,simprocAttr,Z7,Z0,Yt,Zr,Xf,List.map_cons,List.map_nil,List.cons_append,List.nil_append,Uj,Bf,bound,Dy,reaches,Jf]<;>rfl):p:=g
theorem Zgk {p:Prop} (g:p:=by simp (maxSteps:=9^6) +decide (disch:=first|exact dZ|fail) only [go_sem,Zm,Zh,simprocAttr,Z7,read1,Z0,Jf]<;>rfl):p:=g
theorem Z85 {p:Prop} (g:p:=by simp (maxSteps:=9^6) +decide (disch:=first|exact dZ|fail) only [go_sem,Zm,Zh,simprocAttr,Z7,read1,Z0,Yt,Zr]<;>rfl):p:=g
theorem Zau {p:Prop} (g:p:=by simp (maxSteps:=9^6) +decide (disch:=first|exact dZ|fail) only [go_sem,Zm,Zh,simprocAttr,Z7,read1,Z0,Yt,Zr,Jf]<;>rfl):p:=g
theorem Zhe {p:Prop} (g:p:=by simp (maxSteps:=9^6) +decide (disch:=first|exact dZ|fail) only [go_sem,Zm,Zh,simprocAttr,Z7,read1,Z0,Yt,Zr,drG,Jf]<;>rfl):p:=g
theorem Zvj {p:Prop} (g:p:=by simp (maxSteps:=9^6) +decide (disch:=first|exact dZ|fail) only [go_sem,Zm,Zh,simprocAttr,Z7,read1,Z0,Yt,Zr,Jl,Jf]<;>rfl):p:=g
theorem Zz8 {p:Prop} (g:p:=by simp (maxSteps:=9^6) +decide (disch:=first|exact dZ|fail) only [go_sem,Zm,Zh,simprocAttr,Z7,read1,Z0,Yt,Zr,Jl,drG,Jf]<;>rfl):p:=g
theorem Z41 {p:Prop} (g:p:=by simp (maxSteps:=9^6) +decide (disch:=first|exact dZ|fail) only [go_sem,Zm,Zh,simprocAttr,Z7,read1,Z0,Yt,Zr,Xf,List.map_cons,List.map_nil,List.cons_append,List.nil_append,Jf]<;>rfl):p:=g
def Ur (f:Nat->Bool):List (List C):=(List.range 2048).map fun i=>[.bool (f i)]
def byteOf (f:Nat->Bool) (i:Nat):Nat->Nat
 | 0=>0
 | k+1=>2 * byteOf f i k+(f (8 * i+(7 - k))).toNat
theorem Zpo (f:Nat->Bool) (i:Nat) (h:i<2048):read1 1 (Ur f) i=some (.bool (f i)):=by
 simp [Ur,h,read1,Nat.mod_one]
theorem Zk0 (f:Nat->Bool) (i k:Nat):byteOf f i k<2 ^ k:=by
 induction k with
 | zero=>simp [byteOf]
 | succ k ih =>
  have:(f (8 * i+(7 - k))).toNat<=1:=by cases f (8 * i+(7 - k))<;>simp
  rw[byteOf,Nat.pow_succ]
  omega
noncomputable def q100 (p:Lq):Code:=piece p (J8 Tryz.f100)
theorem Ztl:q100 [1,1,0,1,2]=.loop (q100 [1,1,0,1,2,2]):=kR
theorem Zdm:q100 [1,1,0,1,2,2,1,0,2,1,0,1]=.block 2 (q100 [1,1,0,1,2,2,1,0,2,1,0,1,2]):=kR
theorem Sr:q100 [1,1,0,1,2,2,1,0,2,1,0,1,2]=.loop (q100 [1,1,0,1,2,2,1,0,2,1,0,1,2,2]):=kR
section
variable (Hh:Hearts K Tryz.prog)
include Hh
theorem inner (f:Nat->Bool) (nb i:Nat) (hi:i<256) (ro:Bool) (h:Hq) (hb:h.get nb=some (.row 1 (Ur f) ro)):∀ (j:Nat) (ts:Zv),j<=8->Zg ts 0=.w (.c (.slice nb 0 2048 1))->Zg ts 4=.w (.c (.int .i64 i))->Zg ts 5=.w (.c (.int .i64 (byteOf f i (8 - j))))->Zg ts 6=.w (.c (.int .i64 ((j:Int) - 1))) ->
  Z9 31 none (q100 [1,1,0,1,2,2,1,0,2,1,0,1,2]) [] ts h fun x ds' ts' h'=>x=.exit 2/\ds'=[]/\h'=h/\Zg ts' 5=.w (.c (.int .i64 (byteOf f i 8)))/\∀ s,s<=4->Zg ts' s=Zg ts s:=by
 intro j
 induction j with
 | zero =>
  intro ts _ h0 h4 h5 h6
  iterate 6 (first|((first|apply Goes.Zi|apply gO fits Hh Za); · simp (decide:=true) only [go_sem,Zy,H.get_put,H.Zp,Zh,Z8,reduceIte,Nat.reduceAdd,Nat.reduceMul,Z4,Ya,asC,Zo,Yy,Yo,h6]<;>rfl)|apply gS)
  refine⟨rfl,rfl,rfl,?_,fun s hs=>?_⟩
  ·exact tZ h5
  ·simp (decide:=true) only [Y9 hs]
 | succ j ih =>
  intro ts hj h0 h4 h5 h6
  have e6:((j+1:Nat):Int) - 1=(j:Int):=oM
  rw[e6] at h6
  have hlt:=Zk0 f i (8 - (j+1))
  have hp:2 ^ (8 - (j+1))<=2 ^ 8:=Nat.pow_le_pow_right oM oM
  have hstep:byteOf f i (8 - j)=2 * byteOf f i (8 - (j+1))+(f (8 * i+j)).toNat:=by
   have e:8 - j=(8 - (j+1))+1:=oM
   rw[e,byteOf]
   congr 4
   omega
  obtain⟨x,hx⟩:=xzE (byteOf f i (8 - (j+1)))
  rw[hx] at h5 hlt hstep
  have d1:decide ((j:Int) >= 0)=true:=decide_eq_true oM
  have w1:Jm .i64 (2 * (x:Int))=.int .i64 (2 * x):=wrap64 oM oM
  have w2:Jm .i64 (8 * (i:Int))=.int .i64 ((8 * i:Nat):Int):=by rw[wrap64 oM oM]; congr 1
  have w3:Jm .i64 (((8 * i:Nat):Int)+(j:Int))=.int .i64 ((8 * i+j:Nat):Int):=by rw[wrap64 oM oM]; congr 1
  have w4:Jm .i64 (2 * (x:Int)+1)=.int .i64 (2 * x+1):=wrap64 oM oM
  have w5:Jm .i64 ((j:Int) - 1)=.int .i64 ((j:Int) - 1):=wrap64 oM oM
  have b1:Nat.blt (8 * i+j) 2048=true:=Gv oM
  have r1:=Zpo f (8 * i+j) oM
  have n1:Om (some (.int .i64 ((8 * i+j:Nat):Int)))=some (8 * i+j):=rfl
  cases hf:f (8 * i+j) with
  | true =>
   rw[hf] at r1 hstep
   iterate 15 (first|((first|apply Goes.Zi|apply gO fits Hh Za); · simp (decide:=true) only [go_sem,Zy,H.get_put,H.Zp,Zh,Z8,reduceIte,Nat.reduceAdd,Nat.reduceMul,Z4,Ya,asC,Zo,Yy,Yo,h0,h4,h5,h6,d1,w1,w2,w3,w4,w5,b1,r1,n1,hb,Tw,Zao,Qy,Zf5,Z8b,Nat.beq_refl,Nat.zero_add,Nat.mul_one,cW]<;>rfl)|apply gS)
   show Z9 31 none (.loop (q100 [1,1,0,1,2,2,1,0,2,1,0,1,2,2])) _ _ _ _
   rw[<-Sr]
   refine (ih _ oM ?_ ?_ ?_ ?_).mono ?_
   ·exact tZ h0
   ·exact tZ h4
   ·simp (decide:=true) only [Zo,reduceIte,hstep,Bool.toNat_true]
    rfl
   ·exact tY
   ·rintro y ds' ts' h' ⟨e1,e2,e3,e4,e5⟩
    refine⟨e1,e2,e3,e4,fun s hs=>?_⟩
    rw[e5 s hs]
    simp (decide:=true) only [Y9 hs]
  | false =>
   rw[hf] at r1 hstep
   iterate 15 (first|((first|apply Goes.Zi|apply gO fits Hh Za); · simp (decide:=true) only [go_sem,Zy,H.get_put,H.Zp,Zh,Z8,reduceIte,Nat.reduceAdd,Nat.reduceMul,Z4,Ya,asC,Zo,Yy,Yo,h0,h4,h5,h6,d1,w1,w2,w3,w4,w5,b1,r1,n1,hb,Tw,Zao,Qy,Zf5,Z8b,Nat.beq_refl,Nat.zero_add,Nat.mul_one,cW]<;>rfl)|apply gS)
   show Z9 31 none (.loop (q100 [1,1,0,1,2,2,1,0,2,1,0,1,2,2])) _ _ _ _
   rw[<-Sr]
   refine (ih _ oM ?_ ?_ ?_ ?_).mono ?_
   ·exact tZ h0
   ·exact tZ h4
   ·simp (decide:=true) only [Zo,reduceIte,hstep,Bool.toNat_false]
    rfl
   ·exact tY
   ·rintro y ds' ts' h' ⟨e1,e2,e3,e4,e5⟩
    refine⟨e1,e2,e3,e4,fun s hs=>?_⟩
    rw[e5 s hs]
    simp (decide:=true) only [Y9 hs]
def Zbo (f:Nat->Bool) (i:Nat):List C:=(List.range 256).map fun t=>.int .u8 (if t<i then byteOf f t 8 else 0:Nat)
def pack (f:Nat->Bool):List C:=(List.range 256).map fun t=>.int .u8 (byteOf f t 8:Nat)
omit Hh in
theorem Zys (f:Nat->Bool):Zbo f 256=pack f:=by
 unfold Zbo pack
 refine List.map_congr_left fun t ht=>?_
 rw[if_pos (List.mem_range.1 ht)]
omit Hh in
theorem Zyt (f:Nat->Bool):Zbo f 0=List.replicate 256 (.int .u8 0):=by
 unfold Zbo
 refine List.ext_getElem (by rw[List.length_map,List.length_range,List.length_replicate]) fun t h1 h2=>?_
 rw[List.getElem_replicate,List.getElem_map,if_neg oM]
 rfl
omit Hh in
theorem Zrc (f:Nat->Bool) (i:Nat):(Zbo f i).length=256:=by simp [Zbo]
omit Hh in
theorem Ztu (f:Nat->Bool) (i:Nat) (hi:i<256):Z0 256 [Zbo f i] i [.int .u8 (byteOf f i 8:Nat)]=some [Zbo f (i+1)]:=by
 have e1:i / 256=0:=oM
 have e2:i % 256=i:=oM
 have e3:Nat.blt i (Zbo f i).length=true:=Gv (by rw[Zrc]; exact hi)
 simp only[Z0,e1,e2,List.getElem?_cons_zero,e3,cond_true,List.set_cons_zero]
 congr 2
 refine List.ext_getElem (by simp [Zbo]) fun t h1 h2=>?_
 simp only[List.getElem_set]
 simp only[Zbo,List.getElem_map,List.getElem_range]
 by_cases e:i=t
 ·subst e
  simp
 ·rw[if_neg e]
  congr 2
  by_cases h3:t<i
  ·rw[if_pos h3,if_pos oM]
  ·rw[if_neg h3,if_neg oM]
omit Hh in
theorem Zye (f:Nat->Bool):(V.w (.g (pack f))).flat=true:=by
 simp only[V.flat,W.flat,List.all_eq_true]
 intro x hx
 simp only[pack,List.mem_map] at hx
 obtain⟨t,_,rfl⟩:=hx
 rfl
theorem outer (f:Nat->Bool) (nb r3:Nat) (hne:nb≠r3) (ro:Bool):∀ (k i:Nat) (ts:Zv) (h:Hq),i+k=256->h.get nb=some (.row 1 (Ur f) ro)->h.get r3=some (.row 256 [Zbo f i] false)->Zg ts 0=.w (.c (.slice nb 0 2048 1))->Zg ts 3=.w (.c (.ptr r3 0))->Zg ts 4=.w (.c (.int .i64 i)) ->
  Z9 31 none (q100 [1,1,0,1,2]) [] ts h fun x ds' ts' h'=>x=.exit 0/\ds'=[]/\h'.next=h.next/\(∀ n,n≠r3->h'.get n=h.get n)/\h'.get r3=some (.row 256 [pack f] false)/\∀ s,s<=3->Zg ts' s=Zg ts s:=by
 intro k
 induction k with
 | zero =>
  intro i ts h hi hb hr h0 h3 h4
  have ei:i=256:=oM
  subst ei
  iterate 6 (first|((first|apply Goes.Zi|apply gO fits Hh Za); · simp (decide:=true) only [go_sem,Zy,H.get_put,H.Zp,Zh,Z8,reduceIte,Nat.reduceAdd,Nat.reduceMul,Z4,Ya,asC,Zo,Yy,Yo,h4]<;>rfl)|apply gS)
  refine⟨rfl,rfl,rfl,fun _ _=>rfl,by rw[hr,Zys],fun s hs=>?_⟩
  simp (decide:=true) only [Y9 hs]
 | succ k ih =>
  intro i ts h hi hb hr h0 h3 h4
  have d1:decide ((i:Int)<256)=true:=decide_eq_true oM
  iterate 13 (first|((first|apply Goes.Zi|apply gO fits Hh Za); · simp (decide:=true) only [go_sem,Zy,H.get_put,H.Zp,Zh,Z8,reduceIte,Nat.reduceAdd,Nat.reduceMul,Z4,Ya,asC,Zo,Yy,Yo,h4,d1]<;>rfl)|apply gS)
  show Z9 31 none (q100 [1,1,0,1,2,2,1,0,2,1,0,1]) _ _ _ _
  rw[Zdm]
  refine O9 ((inner Hh f nb i oM ro h hb 8 _ oM ?_ ?_ ?_ ?_).mono ?_)
  ·exact tZ h0
  ·exact tZ h4
  ·simp (decide:=true) only [Zo,reduceIte]
   rfl
  ·simp (decide:=true) only [Zo,reduceIte]
   rfl
  rintro x ds' ts' h' ⟨rfl,rfl,rfl,e5,elow⟩
  have f0:Zg ts' 0=.w (.c (.slice nb 0 2048 1)):=by rw[elow 0 dM]; simp (decide:=true) only [Zo,reduceIte,h0]
  have f2:Zg ts' 2=Zg ts 2:=by rw[elow 2 dM]; simp (decide:=true) only [Zo,reduceIte]
  have f1:Zg ts' 1=Zg ts 1:=by rw[elow 1 dM]; simp (decide:=true) only [Zo,reduceIte]
  have f3:Zg ts' 3=.w (.c (.ptr r3 0)):=by rw[elow 3 dM]; simp (decide:=true) only [Zo,reduceIte,h3]
  have f4:Zg ts' 4=.w (.c (.int .i64 i)):=by rw[elow 4 dM]; simp (decide:=true) only [Zo,reduceIte,h4]
  have hlt:=Zk0 f i 8
  have w8:Jm .u8 (byteOf f i 8:Int)=.int .u8 (byteOf f i 8):=by rw[Z3h]; congr 1; omega
  have w9:Jm .i64 ((i:Int)+1)=.int .i64 ((i+1:Nat):Int):=by rw[wrap64 oM oM]; congr 1
  have b1:Nat.blt i 256=true:=Gv oM
  have wr:=Ztu f i oM
  show Z9 31 none (q100 [1,1,0,1,2,2,1,0,2,1,1]) _ _ _ _
  iterate 2 ((apply gO fits Hh Za; · simp (decide:=true) only [go_sem,Zy,H.get_put,H.Zp,Zh,Z8,reduceIte,Nat.reduceAdd,Nat.reduceMul,f0,f2,f3,f4,e5,w8,w9,b1,wr,hr,U9,Sy,O4,Z9f,Yb6,Zan,Nat.beq_refl,Nat.zero_add,Nat.mul_one]<;>rfl))
  show Z9 31 none (.loop (q100 [1,1,0,1,2,2])) _ _ _ _
  rw[<-Ztl]
  refine (ih (i+1) _ _ oM ?_ ?_ ?_ ?_ ?_).mono ?_
  ·rw[H.get_put,if_neg hne]; exact hb
  ·rw[H.get_put,if_pos rfl]
  ·exact tZ f0
  ·exact tZ f3
  ·exact tY
  ·rintro x ds' ts'' h'' ⟨g1,g2,g3,g4,g5,g6⟩
   refine⟨g1,g2,g3,fun n hn=>?_,g5,fun s hs=>?_⟩
   ·rw[g4 n hn,H.get_put,if_neg hn]
   ·rw[g6 s hs]
    simp (decide:=true) only [Y9 hs]
    rw[elow s (Nat.le_trans hs dM)]
    simp (decide:=true) only [Y9 hs]
theorem Zcq (f:Nat->Bool) (nb:Nat) (ro:Bool) (h:Hq) (hb:h.get nb=some (.row 1 (Ur f) ro)):Zb 100 [.c (.slice nb 0 2048 1)] h (.w (.g (pack f))) h:=by
 refine Zx.tidy ⟨_,Tryz.func100,kR,of_decide_eq_true kR⟩ fun tidy=>?_
 have hnb:=tidy nb _ hb
 have z54:ti87.zero.cells=Zbo f 0:=by rw[Zyt]; rfl
 have e0:Zg (Ug 0 [.c (.slice nb 0 2048 1)] .nil) 0=.w (.c (.slice nb 0 2048 1)):=by rw[U2]; rfl
 suffices hs:∃ h',(∀ n,n<h.next->h'.get n=h.get n)/\Zb 100 [.c (.slice nb 0 2048 1)] h (.w (.g (pack f))) h' by
  obtain⟨h',e2,c⟩:=hs
  exact c.quiet (Zye f) e2
 suffices hs:Z9 31 none (q100 []) [] (Ug 0 [.c (.slice nb 0 2048 1)] .nil) h fun x ds ts h1=>(∀ n,n<h.next->h1.get n=h.get n)/\leave K Tryz.f100 (some (.at x ds ts h1))=some (.val (.w (.g (pack f))) h1) by
  obtain⟨x,ds,ts,h1,g,e2,e3⟩:=hs
  exact⟨h1,e2,Zx.body fits Hh kR kR kR kR rfl g e3⟩
 iterate 8 (first|(apply gO fits Hh Za; · simp (decide:=true) only [go_sem,Zy,H.get_put,H.Zp,Zh,Z8,reduceIte,Nat.reduceAdd,Nat.reduceMul,e0,U9,Gu,z54]<;>rfl)|apply gS)
 show Z9 31 none (q100 [1,1,0,1,2]) _ _ _ _
 refine (outer Hh f nb (h.next+1) oM ro 256 0 _ _ rfl ?_ ?_ ?_ ?_ ?_).mono ?_
 ·rw[H.Zp,H.Ze,if_neg oM,H.Zp,if_neg oM]; exact hb
 ·rw[H.Zp,H.Ze,if_pos rfl]
 ·exact tZ e0
 ·simp (decide:=true) only [Zo,reduceIte,H.Ze]
 ·simp (decide:=true) only [Zo,reduceIte]
  rfl
 rintro x ds' ts' h' ⟨rfl,rfl,hn,hk,hr,elow⟩
 have f2:Zg ts' 2=.w (.c (.ptr h.next 0)):=by rw[elow 2 dM]; simp (decide:=true) only [Zo,reduceIte]
 have f3:Zg ts' 3=.w (.c (.ptr (h.next+1) 0)):=by rw[elow 3 dM]; simp (decide:=true) only [Zo,reduceIte,H.Ze]
 have hr2:h'.get h.next=some (.row 256 [Zbo f 0] false):=by
  rw[hk h.next oM,H.Zp,H.Ze,if_neg oM,H.Zp,if_pos rfl]
 have rd:Zm 256 [pack f] 0 256=some (pack f):=by
  have e:(pack f).length=256:=by simp [pack]
  have:=Zal (l:=pack f) oM
  rwa [e] at this
 have wr:Z0 256 [Zbo f 0] 0 (pack f)=some [pack f]:=by
  have e:(pack f).length=256:=by simp [pack]
  have:=Wz (l:=Zbo f 0) (l':=pack f) oM (by rw[Zrc,e])
  rwa [e] at this
 have lp:(pack f).length=256:=by simp [pack]
 show Z9 31 none (q100 [1,1,1]) _ _ _ _
 iterate 3 (first|(apply gO fits Hh Za; · simp (decide:=true) only [go_sem,Zy,H.get_put,H.Zp,Zh,Z8,reduceIte,Nat.reduceAdd,Nat.reduceMul,f2,f3,hr,hr2,rd,wr,lp,U9,Bc,Gu,gW,Nat.beq_refl]<;>rfl)|apply gS)
 refine⟨fun n hn'=>?_,?_⟩
 ·rw[H.get_put,if_neg oM,hk n oM,H.Zp,H.Ze,if_neg oM,H.Zp,if_neg oM]
 ·have e1:Tryz.f100.results.toList=[.cell 2 87]:=rfl
  simp (decide:=true) only [Er,Jg,finish,e1,Jb,Z4,Ya,asC,Zo,reduceIte,f2,Go.Ev.load,U9,Zh,Bc,Gu,H.get_put,cond_true,rd,gW,Ue]
end
end Go.Proofs.YtmanipmhebgdbaaGreatDoor
