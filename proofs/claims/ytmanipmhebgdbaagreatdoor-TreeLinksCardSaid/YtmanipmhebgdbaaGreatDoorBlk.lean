/- Types of the program, as the evaluator has them. -/
import Derived.Test.YtmanipmhebgdbaaGreatDoorFits
set_option maxRecDepth 100000
set_option linter.unusedSimpArgs false
set_option linter.unusedVariables false
set_option linter.unusedSectionVars false
namespace Go.Proofs.YtmanipmhebgdbaaGreatDoor
open Go.Ev
theorem gl:K.globs=Tree.set .nil 1 0:=kR
theorem Oy:K.types.get 3=some ti3:=kR
theorem Fa:ti3.size=1:=rfl
theorem Ey:ti3.agg=false:=rfl
theorem Za1:K.types.get 4=some ti4:=kR
theorem Zgq:ti4.size=1:=rfl
theorem Z9b:ti4.agg=false:=rfl
theorem Te:K.types.get 5=some ti5:=kR
theorem Yc3:ti5.desc=.int .u8:=rfl
theorem Zaz:ti5.size=1:=rfl
theorem Zc3:ti5.agg=false:=rfl
theorem Z9t:K.types.get 40=some ti40:=kR
theorem Yc5:ti40.desc=.int .u32:=rfl
theorem Yfa:ti40.size=1:=rfl
theorem Ycg:ti40.agg=false:=rfl
theorem U3:K.types.get 87=some ti87:=kR
theorem Yai:ti87.desc=.array 256 5:=rfl
theorem Gs:ti87.size=256:=rfl
theorem Ba:ti87.agg=true:=rfl
theorem Vd:K.types.get 184=some ti184:=kR
theorem Zac:ti184.desc=.slice 4:=rfl
theorem Rx:K.types.get 73=some ti73:=kR
theorem Znu:ti73.desc=.slice 5:=rfl
theorem Ybs:ti73.size=1:=rfl
theorem Z91:ti73.agg=false:=rfl
theorem Zsa:K.types.get 454=some ti454:=kR
theorem Z6l:ti454.desc=.slice 73:=rfl
theorem Z8t:K.types.get 455=some ti455:=kR
theorem Yak:ti455.desc=.array 16 40:=rfl
theorem Zem {v:Nat} (h:v<4294967296):Jk .u32 (v:Int)=.int .u32 (v:Int):=by
 unfold Jk IntKind.wrap
 congr 1
 show (if (false&&_)=true then _ else (v:Int) % 4294967296)=_
 simp only[Bool.false_and,Bool.false_eq_true,if_false]
 omega
theorem Zs5 {f:Nat->Nat->Nat} {a b:Nat} (ha:a<4294967296) (hb:b<4294967296) (hf:f a b<4294967296):Db .u32 f (a:Int) (b:Int)=.int .u32 (f a b:Nat):=by
 have e1:((a:Int) % 2 ^ IntKind.bits .u32).toNat=a:=by show ((a:Int) % 4294967296).toNat=a; omega
 have e2:((b:Int) % 2 ^ IntKind.bits .u32).toNat=b:=by show ((b:Int) % 4294967296).toNat=b; omega
 unfold Db
 rw[e1,e2]
 exact Zem hf
theorem Zf9 {a b:Nat} (ha:a<4294967296) (hb:b<4294967296):Db .u32 Nat.xor (a:Int) (b:Int)=.int .u32 (Nat.xor a b:Nat):=Zs5 ha hb (Nat.xor_lt_two_pow (n:=32) ha hb)
theorem Zpt {a b:Nat} (ha:a<4294967296) (hb:b<4294967296):Nat.xor a b<4294967296:=Nat.xor_lt_two_pow (n:=32) ha hb
theorem Yy {a b:Prop} (x:a) (y:b):a/\b:=⟨x,y⟩
theorem Ja {a b c:Prop} (x:a) (y:b) (z:c):a/\b/\c:=⟨x,y,z⟩
theorem J6 {a b c d:Prop} (x:a) (y:b) (z:c) (u:d):a/\b/\c/\d:=⟨x,y,z,u⟩
theorem G6 {a b c d e:Prop} (x:a) (y:b) (z:c) (u:d) (v:e):a/\b/\c/\d/\e:=⟨x,y,z,u,v⟩
theorem Nk {a b c d e f:Prop} (x:a) (y:b) (z:c) (u:d) (v:e) (w:f):a/\b/\c/\d/\e/\f:=⟨x,y,z,u,v,w⟩
theorem Lc {a b c d e f g:Prop} (x:a) (y:b) (z:c) (u:d) (v:e) (w:f) (s:g):a/\b/\c/\d/\e/\f/\g:=⟨x,y,z,u,v,w,s⟩
theorem Nl {a b c d e f g h:Prop} (x:a) (y:b) (z:c) (u:d) (v:e) (w:f) (s:g) (t:h):a/\b/\c/\d/\e/\f/\g/\h:=⟨x,y,z,u,v,w,s,t⟩
theorem Yu {a b c d e f g h i:Prop} (x:a) (y:b) (z:c) (u:d) (v:e) (w:f) (s:g) (t:h) (r:i):a/\b/\c/\d/\e/\f/\g/\h/\i:=⟨x,y,z,u,v,w,s,t,r⟩
theorem O1 {f:Go.FuncId} {args:List W} {h:Hq} {v0:V} {Q:Hq->Prop} (x:∃ v h',Zu K Tryz.prog f args h v h'/\v=v0/\Q h'):∃ h',Zu K Tryz.prog f args h v0 h'/\Q h':=by
 obtain⟨v,h',c,rfl,q⟩:=x
 exact⟨h',c,q⟩
theorem Dx {f:Go.FuncId} {args:List W} {h:Hq} {v0:V} (fl:v0.flat=true) (x:∃ v h',Zu K Tryz.prog f args h v h'/\v=v0/\∀ m,m<h.next->h'.get m=h.get m):Zu K Tryz.prog f args h v0 h:=by
 obtain⟨v,h',c,rfl,q⟩:=x
 exact c.quiet fl q
theorem Np {p:Prop} (g:p:=by (first|(simp (discharger:=omega) only [H.get_put,H.Zq,H.D5,H.Zc,H.Zd,H.Yv,if_neg]; done)|(simp only[H.get_put,H.Zq,H.D5,H.Zc,H.Zd,H.Yv]; (repeat' split)<;>first|rfl|(exfalso; omega)|omega))):p:=g
theorem nxQ {a b:Hq} {n:Nat} (e:a=b) (g:b.next=n:=by first|(simp only[H.Zd,H.Zc]; done)|rfl):a.next=n:=by rw[e]; exact g
theorem kQ {a b c:Hq} {k:Nat} (e:a=b) (g:∀ m,m<k->b.get m=c.get m:=by intro m hm; exact Ym):∀ m,m<k->a.get m=c.get m:=fun m hm=>by rw[e]; exact g m hm
theorem tY {p:Prop} (g:p:=by simp (decide:=true) only [Zp,reduceIte]):p:=g
theorem tX {p:Prop} (g:p:=by simp (decide:=true) only [Zp,reduceIte]<;>rfl):p:=g
theorem tZ {q p:Prop} (h:q) (g:q->p:=by intro h; simp (decide:=true) only [Zp,reduceIte,h]):p:=g h
abbrev Zb:=Zu K Tryz.prog
abbrev Z8:=Goes K Tryz.prog
section
variable (Hh:Hearts K Tryz.prog)
include Hh
theorem fnG {f:Go.FuncId} (fn:Go.Func) {body:Go.Code} {args:List W} {v:V} {h h':Hq} (g:Goes K Tryz.prog fn.ntmps none body [] (Ug 0 args .nil) h fun x ds ts h1=>leave K fn (some (.at x ds ts h1))=some (.val v h')) (hc:K.clones.contains f=false:=by kernel_rfl) (hs:K.sorted.lookup f=none:=by kernel_rfl) (hf:K.funcs.get f=some fn:=by kernel_rfl) (hb:fn.body=some body:=by exact rfl) (hn:Nat.ble args.length fn.ntmps=true:=by exact rfl):Zu K Tryz.prog f args h v h':=Zu.goes fits Hh hc hs hf hb hn g
theorem Yk {f:Go.FuncId} (fn:Go.Func) {body:Go.Code} {args:List W} {h:Hq} {R:V->Hq->Prop} (g:Goes K Tryz.prog fn.ntmps none body [] (Ug 0 args .nil) h fun x ds ts h1=>∃ v h',leave K fn (some (.at x ds ts h1))=some (.val v h')/\R v h') (hc:K.clones.contains f=false:=by kernel_rfl) (hs:K.sorted.lookup f=none:=by kernel_rfl) (hf:K.funcs.get f=some fn:=by kernel_rfl) (hb:fn.body=some body:=by exact rfl) (hn:Nat.ble args.length fn.ntmps=true:=by exact rfl):∃ v h',Zu K Tryz.prog f args h v h'/\R v h':=Zu.Yde fits Hh hc hs hf hb hn g
theorem Zo {n:Nat} {rd:Option Nat} {ds:Lq} {ts ts':Zx} {h h':Hq} {Q:Go.Ev.X->Lq->Zx->Hq->Prop} {id:Nat} {E:Task->Option Out} {ops:Array Go.Oper} (S:Sound K Tryz.prog E) (g:Fu K E ops.toList n ops.toList ts h=some (ts',h')) (q:Q .normal ds ts' h'):Goes K Tryz.prog n rd (.region id ops false) ds ts h Q:=Goes.ops2 fits Hh S g q
theorem F7 {n:Nat} {rd:Option Nat} {ds:Lq} {ts ts':Zx} {h h':Hq} {Q:Go.Ev.X->Lq->Zx->Hq->Prop} {id:Nat} {E:Task->Option Out} {ops:Array Go.Oper} (S:Sound K Tryz.prog E) (g:Zqq K ops.toList (Zdh K E ops.toList n 0 ops.toList ⟨ts,h,h,[],[]⟩)=some (ts',h')) (q:Q .normal ds ts' h') (st:(Wm 0 ops.toList&&Qf ops.toList 0 ops.toList&&Rq ops.toList 0 none [] ops.toList)=true:=by kernel_rfl):Goes K Tryz.prog n rd (.region id ops true) ds ts h Q:=Goes.drawn2 fits Hh S st g q
end
theorem Ym {p:Prop} (g:p:=by simp (disch:=first|omega|(simp only[lens]<;>omega)) only [go_sem]):p:=g
theorem Yn {p:Prop} (g:p:=by simp (maxSteps:=9^6) +decide (disch:=first|exact dZ|fail) only [go_sem,Zi,simprocAttr,Z7]<;>rfl):p:=g
theorem Zr {p:Prop} (g:p:=by simp (maxSteps:=9^6) +decide (disch:=first|exact dZ|fail) only [go_sem,Zi,simprocAttr,Z7,Jf]<;>rfl):p:=g
theorem Zh0 {p:Prop} (g:p:=by simp (maxSteps:=9^6) +decide (disch:=first|exact dZ|fail) only [go_sem,Zi,simprocAttr,Z7,drG,Jf]<;>rfl):p:=g
theorem Y9 {p:Prop} (g:p:=by simp (maxSteps:=9^6) +decide (disch:=first|exact dZ|fail) only [go_sem,Zi,simprocAttr,Z7,Yx,Zt,Jf]<;>rfl):p:=g
theorem Z0v {p:Prop} (g:p:=by simp (maxSteps:=9^6) +decide (disch:=first|exact dZ|fail) only [go_sem,Zi,simprocAttr,Z7,Yx,Zt,drG,Jf]<;>rfl):p:=g
theorem Gt {p:Prop} (g:p:=by simp (maxSteps:=9^6) +decide (disch:=first|exact dZ|fail) only [go_sem,Zi,simprocAttr,Z7,Yx,Zt,Jn,Jf]<;>rfl):p:=g
theorem Z5x {p:Prop} (g:p:=by simp (maxSteps:=9^6) +decide (disch:=first|exact dZ|fail) only [go_sem,Zi,simprocAttr,Z7,Yx,Zt,Wy,List.map_cons,List.map_nil,List.cons_append,List.nil_append,Jf]<;>rfl):p:=g
theorem Zc9 {p:Prop} (g:p:=by simp (maxSteps:=9^6) +decide (disch:=first|exact dZ|fail) only [go_sem,Zi,simprocAttr,Z7,Yx,Zt,Jn,Wy,List.map_cons,List.map_nil,List.cons_append,List.nil_append,Ol,Eb,bound,Lg,Jf]<;>rfl):p:=g
theorem Ld {p:Prop} (g:p:=by simp (maxSteps:=9^6) +decide (disch:=first|exact dZ|fail) only [go_sem,Zi,simprocAttr,Z7,Yx,Zt,Jn,Wy,List.map_cons,List.map_nil,List.cons_append,List.nil_append,Ol,Eb,bound,Lg,reaches,Jf]<;>rfl):p:=g
theorem Fe {p:Prop} (g:p:=by simp (maxSteps:=9^6) +decide (disch:=first|exact dZ|fail) only [go_sem,Zi,simprocAttr,Z7,Yx,Zt,Wy,List.map_cons,List.map_nil,List.cons_append,List.nil_append,Ol,Eb,bound,Lg,reaches,Jf]<;>rfl):p:=g
theorem Z0w {p:Prop} (g:p:=by simp (maxSteps:=9^6) +decide (disch:=first|exact dZ|fail) only [go_sem,Zi,simprocAttr,Z7,Yx,Zt,Wy,List.map_cons,List.map_nil,List.cons_append,List.nil_append,Ol,Eb,bound,Lg,reaches,drG,Jf]<;>rfl):p:=g
theorem G9 {p:Prop} (g:p:=by simp (maxSteps:=9^6) +decide (disch:=first|exact dZ|fail) only [go_sem,Zi,simprocAttr,Z7,Yx,Zt,Nc,Jf]<;>rfl):p:=g
theorem Jh {p:Prop} (g:p:=by simp (maxSteps:=9^6) +decide (disch:=first|exact dZ|fail) only [go_sem,Zi,simprocAttr,Z7,read1,Jf]<;>rfl):p:=g
theorem Zp6 {p:Prop} (g:p:=by simp (maxSteps:=9^6) +decide (disch:=first|exact dZ|fail) only [go_sem,Zi,simprocAttr,Z7,read1,drG,Jf]<;>rfl):p:=g
theorem Jl {p:Prop} (g:p:=by simp (maxSteps:=9^6) +decide (disch:=first|exact dZ|fail) only [go_sem,Zi,simprocAttr,Z7,read1,Yx,Zt,Jf]<;>rfl):p:=g
theorem Z0x {p:Prop} (g:p:=by simp (maxSteps:=9^6) +decide (disch:=first|exact dZ|fail) only [go_sem,Zi,simprocAttr,Z7,read1,Yx,Zt,drG,Jf]<;>rfl):p:=g
theorem Gi {p:Prop} (g:p:=by simp (maxSteps:=9^6) +decide (disch:=first|exact dZ|fail) only [go_sem,Zi,simprocAttr,Z7,read1,Yx,Zt,Jn,Jf]<;>rfl):p:=g
theorem Zh1 {p:Prop} (g:p:=by simp (maxSteps:=9^6) +decide (disch:=first|exact dZ|fail) only [go_sem,Zi,simprocAttr,Z7,read1,Yx,Zt,Jn,drG,Jf]<;>rfl):p:=g
theorem Ms {p:Prop} (g:p:=by simp (maxSteps:=9^6) +decide (disch:=first|exact dZ|fail) only [go_sem,Zi,simprocAttr,Z7,read1,Yx,Zt,Wy,List.map_cons,List.map_nil,List.cons_append,List.nil_append,Jf]<;>rfl):p:=g
theorem Z0y {p:Prop} (g:p:=by simp (maxSteps:=9^6) +decide (disch:=first|exact dZ|fail) only [go_sem,Zi,simprocAttr,Z7,read1,Yx,Zt,Wy,List.map_cons,List.map_nil,List.cons_append,List.nil_append,drG,Jf]<;>rfl):p:=g
theorem Zf {p:Prop} (g:p:=by simp (maxSteps:=9^6) +decide (disch:=first|exact dZ|fail) only [go_sem,Zn,Zi,simprocAttr,Z7]<;>rfl):p:=g
theorem Zm {p:Prop} (g:p:=by simp (maxSteps:=9^6) +decide (disch:=first|exact dZ|fail) only [go_sem,Zn,Zi,simprocAttr,Z7,Jf]<;>rfl):p:=g
theorem Zda {p:Prop} (g:p:=by simp (maxSteps:=9^6) +decide (disch:=first|exact dZ|fail) only [go_sem,Zn,Zi,simprocAttr,Z7,drG,Jf]<;>rfl):p:=g
theorem Fh {p:Prop} (g:p:=by simp (maxSteps:=9^6) +decide (disch:=first|exact dZ|fail) only [go_sem,Zn,Zi,simprocAttr,Z7,Yx,Zt]<;>rfl):p:=g
theorem Mt {p:Prop} (g:p:=by simp (maxSteps:=9^6) +decide (disch:=first|exact dZ|fail) only [go_sem,Zn,Zi,simprocAttr,Z7,Yx,Zt,Jf]<;>rfl):p:=g
theorem Znh {p:Prop} (g:p:=by simp (maxSteps:=9^6) +decide (disch:=first|exact dZ|fail) only [go_sem,Zn,Zi,simprocAttr,Z7,Yx,Zt,Jn]<;>rfl):p:=g
theorem Ut {p:Prop} (g:p:=by simp (maxSteps:=9^6) +decide (disch:=first|exact dZ|fail) only [go_sem,Zn,Zi,simprocAttr,Z7,Yx,Zt,Jn,Jf]<;>rfl):p:=g
theorem Zg4 {p:Prop} (g:p:=by simp (maxSteps:=9^6) +decide (disch:=first|exact dZ|fail) only [go_sem,Zn,Zi,simprocAttr,Z7,Yx,Zt,Wy,List.map_cons,List.map_nil,List.cons_append,List.nil_append,Ol,Eb,bound,Lg,reaches,Jf]<;>rfl):p:=g
theorem Za6 {p:Prop} (g:p:=by simp (maxSteps:=9^6) +decide (disch:=first|exact dZ|fail) only [go_sem,Zn,Zi,simprocAttr,Z7,Yx,Zt,Wy,List.map_cons,List.map_nil,List.cons_append,List.nil_append,Ol,Eb,bound,Lg,Jf]<;>rfl):p:=g
theorem Zni {p:Prop} (g:p:=by simp (maxSteps:=9^6) +decide (disch:=first|exact dZ|fail) only [go_sem,Zn,Zi,simprocAttr,Z7,read1]<;>rfl):p:=g
theorem Ye {p:Prop} (g:p:=by simp (maxSteps:=9^6) +decide (disch:=first|exact dZ|fail) only [go_sem,Zn,Zi,simprocAttr,Z7,read1,Jf]<;>rfl):p:=g
theorem Z02 {p:Prop} (g:p:=by simp (maxSteps:=9^6) +decide (disch:=first|exact dZ|fail) only [go_sem,Zn,Zi,simprocAttr,Z7,read1,drG,Jf]<;>rfl):p:=g
theorem Z94 {p:Prop} (g:p:=by simp (maxSteps:=9^6) +decide (disch:=first|exact dZ|fail) only [go_sem,Zn,Zi,simprocAttr,Z7,read1,Yx,Zt]<;>rfl):p:=g
theorem Oc {p:Prop} (g:p:=by simp (maxSteps:=9^6) +decide (disch:=first|exact dZ|fail) only [go_sem,Zn,Zi,simprocAttr,Z7,read1,Yx,Zt,Jf]<;>rfl):p:=g
theorem Zh2 {p:Prop} (g:p:=by simp (maxSteps:=9^6) +decide (disch:=first|exact dZ|fail) only [go_sem,Zn,Zi,simprocAttr,Z7,read1,Yx,Zt,drG,Jf]<;>rfl):p:=g
theorem Rp {p:Prop} (g:p:=by simp (maxSteps:=9^6) +decide (disch:=first|exact dZ|fail) only [go_sem,Zn,Zi,simprocAttr,Z7,read1,Yx,Zt,Jn,Jf]<;>rfl):p:=g
theorem Z5y {p:Prop} (g:p:=by simp (maxSteps:=9^6) +decide (disch:=first|exact dZ|fail) only [go_sem,Zn,Zi,simprocAttr,Z7,read1,Yx,Zt,Wy,List.map_cons,List.map_nil,List.cons_append,List.nil_append,Jf]<;>rfl):p:=g
theorem Z95 {p:Prop} (g:p:=by simp (maxSteps:=9^6) +decide (disch:=first|exact dZ|fail) only [go_sem,Zn,Zi,simprocAttr,Z7,Z0]<;>rfl):p:=g
theorem Zv4 {p:Prop} (g:p:=by simp (maxSteps:=9^6) +decide (disch:=first|exact dZ|fail) only [go_sem,Zn,Zi,simprocAttr,Z7,Z0,Jf]<;>rfl):p:=g
theorem Zs2 {p:Prop} (g:p:=by simp (maxSteps:=9^6) +decide (disch:=first|exact dZ|fail) only [go_sem,Zn,Zi,simprocAttr,Z7,Z0,Yx,Zt]<;>rfl):p:=g
theorem Zg5 {p:Prop} (g:p:=by simp (maxSteps:=9^6) +decide (disch:=first|exact dZ|fail) only [go_sem,Zn,Zi,simprocAttr,Z7,Z0,Yx,Zt,Wy,List.map_cons,List.map_nil,List.cons_append,List.nil_append,Jf]<;>rfl):p:=g
theorem Z03 {p:Prop} (g:p:=by simp (maxSteps:=9^6) +decide (disch:=first|exact dZ|fail) only [go_sem,Zn,Zi,simprocAttr,Z7,Z0,Yx,Zt,Wy,List.map_cons,List.map_nil,List.cons_append,List.nil_append,drG,Jf]<;>rfl):p:=g
theorem Znj {p:Prop} (g:p:=by simp (maxSteps:=9^6) +decide (disch:=first|exact dZ|fail) only [go_sem,Zn,Zi,simprocAttr,Z7,Z0,Yx,Zt,Wy,List.map_cons,List.map_nil,List.cons_append,List.nil_append,Ol,Eb,bound,Lg,reaches,Jf]<;>rfl):p:=g
theorem Zg6 {p:Prop} (g:p:=by simp (maxSteps:=9^6) +decide (disch:=first|exact dZ|fail) only [go_sem,Zn,Zi,simprocAttr,Z7,read1,Z0,Jf]<;>rfl):p:=g
theorem Z96 {p:Prop} (g:p:=by simp (maxSteps:=9^6) +decide (disch:=first|exact dZ|fail) only [go_sem,Zn,Zi,simprocAttr,Z7,read1,Z0,Yx,Zt]<;>rfl):p:=g
theorem Za7 {p:Prop} (g:p:=by simp (maxSteps:=9^6) +decide (disch:=first|exact dZ|fail) only [go_sem,Zn,Zi,simprocAttr,Z7,read1,Z0,Yx,Zt,Jf]<;>rfl):p:=g
theorem Zh3 {p:Prop} (g:p:=by simp (maxSteps:=9^6) +decide (disch:=first|exact dZ|fail) only [go_sem,Zn,Zi,simprocAttr,Z7,read1,Z0,Yx,Zt,drG,Jf]<;>rfl):p:=g
theorem Zv5 {p:Prop} (g:p:=by simp (maxSteps:=9^6) +decide (disch:=first|exact dZ|fail) only [go_sem,Zn,Zi,simprocAttr,Z7,read1,Z0,Yx,Zt,Jn,Jf]<;>rfl):p:=g
theorem Z04 {p:Prop} (g:p:=by simp (maxSteps:=9^6) +decide (disch:=first|exact dZ|fail) only [go_sem,Zn,Zi,simprocAttr,Z7,read1,Z0,Yx,Zt,Jn,drG,Jf]<;>rfl):p:=g
theorem Z5z {p:Prop} (g:p:=by simp (maxSteps:=9^6) +decide (disch:=first|exact dZ|fail) only [go_sem,Zn,Zi,simprocAttr,Z7,read1,Z0,Yx,Zt,Wy,List.map_cons,List.map_nil,List.cons_append,List.nil_append,Jf]<;>rfl):p:=g
def Ul (f:Nat->Bool):List (List C):=(List.range 2048).map fun i=>[.bool (f i)]
def byteOf (f:Nat->Bool) (i:Nat):Nat->Nat
 | 0=>0
 | k+1=>2 * byteOf f i k+(f (8 * i+(7 - k))).toNat
theorem Zqa (f:Nat->Bool) (i:Nat) (h:i<2048):read1 1 (Ul f) i=some (.bool (f i)):=by
 simp [Ul,h,read1,Nat.mod_one]
theorem Zlk (f:Nat->Bool) (i k:Nat):byteOf f i k<2 ^ k:=by
 induction k with
 | zero=>simp [byteOf]
 | succ k ih =>
  have:(f (8 * i+(7 - k))).toNat<=1:=by cases f (8 * i+(7 - k))<;>simp
  rw[byteOf,Nat.pow_succ]
  omega
noncomputable def q100 (p:Lq):Code:=piece p (J7 Tryz.f100)
theorem Zt6:q100 [1,1,0,1,2]=.loop (q100 [1,1,0,1,2,2]):=kR
theorem Zd9:q100 [1,1,0,1,2,2,1,0,2,1,0,1]=.block 2 (q100 [1,1,0,1,2,2,1,0,2,1,0,1,2]):=kR
theorem Ta:q100 [1,1,0,1,2,2,1,0,2,1,0,1,2]=.loop (q100 [1,1,0,1,2,2,1,0,2,1,0,1,2,2]):=kR
section
variable (Hh:Hearts K Tryz.prog)
include Hh
theorem inner (f:Nat->Bool) (nb i:Nat) (hi:i<256) (ro:Bool) (h:Hq) (hb:h.get nb=some (.row 1 (Ul f) ro)):∀ (j:Nat) (ts:Zx),j<=8->Zg ts 0=.w (.c (.slice nb 0 2048 1))->Zg ts 4=.w (.c (.int .i64 i))->Zg ts 5=.w (.c (.int .i64 (byteOf f i (8 - j))))->Zg ts 6=.w (.c (.int .i64 ((j:Int) - 1))) ->
  Z8 31 none (q100 [1,1,0,1,2,2,1,0,2,1,0,1,2]) [] ts h fun x ds' ts' h'=>x=.exit 2/\ds'=[]/\h'=h/\Zg ts' 5=.w (.c (.int .i64 (byteOf f i 8)))/\∀ s,s<=4->Zg ts' s=Zg ts s:=by
 intro j
 induction j with
 | zero =>
  intro ts _ h0 h4 h5 h6
  iterate 6 (first|((first|apply Goes.Zh|apply Goes.ops2 fits Hh Za); · simp (decide:=true) only [go_sem,Zz,H.get_put,H.Zq,Zi,Z9,reduceIte,Nat.reduceAdd,Nat.reduceMul,Z4,Ya,asC,Zp,Yz,Yo,h6]<;>rfl)|apply gS)
  refine⟨rfl,rfl,rfl,?_,fun s hs=>?_⟩
  ·exact tZ h5
  ·simp (decide:=true) only [Y6 hs]
 | succ j ih =>
  intro ts hj h0 h4 h5 h6
  have e6:((j+1:Nat):Int) - 1=(j:Int):=oM
  rw[e6] at h6
  have hlt:=Zlk f i (8 - (j+1))
  have hp:2 ^ (8 - (j+1))<=2 ^ 8:=Nat.pow_le_pow_right oM oM
  have hstep:byteOf f i (8 - j)=2 * byteOf f i (8 - (j+1))+(f (8 * i+j)).toNat:=by
   have e:8 - j=(8 - (j+1))+1:=oM
   rw[e,byteOf]
   congr 4
   omega
  obtain⟨x,hx⟩:=xzE (byteOf f i (8 - (j+1)))
  rw[hx] at h5 hlt hstep
  have d1:decide ((j:Int) >= 0)=true:=decide_eq_true oM
  have w1:Jk .i64 (2 * (x:Int))=.int .i64 (2 * x):=wrap64 oM oM
  have w2:Jk .i64 (8 * (i:Int))=.int .i64 ((8 * i:Nat):Int):=by rw[wrap64 oM oM]; congr 1
  have w3:Jk .i64 (((8 * i:Nat):Int)+(j:Int))=.int .i64 ((8 * i+j:Nat):Int):=by rw[wrap64 oM oM]; congr 1
  have w4:Jk .i64 (2 * (x:Int)+1)=.int .i64 (2 * x+1):=wrap64 oM oM
  have w5:Jk .i64 ((j:Int) - 1)=.int .i64 ((j:Int) - 1):=wrap64 oM oM
  have b1:Nat.blt (8 * i+j) 2048=true:=Gu oM
  have r1:=Zqa f (8 * i+j) oM
  have n1:Oh (some (.int .i64 ((8 * i+j:Nat):Int)))=some (8 * i+j):=rfl
  cases hf:f (8 * i+j) with
  | true =>
   rw[hf] at r1 hstep
   iterate 15 (first|((first|apply Goes.Zh|apply Goes.ops2 fits Hh Za); · simp (decide:=true) only [go_sem,Zz,H.get_put,H.Zq,Zi,Z9,reduceIte,Nat.reduceAdd,Nat.reduceMul,Z4,Ya,asC,Zp,Yz,Yo,h0,h4,h5,h6,d1,w1,w2,w3,w4,w5,b1,r1,n1,hb,Vd,Za1,Zac,Zgq,Z9b,Nat.beq_refl,Nat.zero_add,Nat.mul_one,cW]<;>rfl)|apply gS)
   show Z8 31 none (.loop (q100 [1,1,0,1,2,2,1,0,2,1,0,1,2,2])) _ _ _ _
   rw[<-Ta]
   refine (ih _ oM ?_ ?_ ?_ ?_).mono ?_
   ·exact tZ h0
   ·exact tZ h4
   ·simp (decide:=true) only [Zp,reduceIte,hstep,Bool.toNat_true]
    rfl
   ·exact tY
   ·rintro y ds' ts' h' ⟨e1,e2,e3,e4,e5⟩
    refine⟨e1,e2,e3,e4,fun s hs=>?_⟩
    rw[e5 s hs]
    simp (decide:=true) only [Y6 hs]
  | false =>
   rw[hf] at r1 hstep
   iterate 15 (first|((first|apply Goes.Zh|apply Goes.ops2 fits Hh Za); · simp (decide:=true) only [go_sem,Zz,H.get_put,H.Zq,Zi,Z9,reduceIte,Nat.reduceAdd,Nat.reduceMul,Z4,Ya,asC,Zp,Yz,Yo,h0,h4,h5,h6,d1,w1,w2,w3,w4,w5,b1,r1,n1,hb,Vd,Za1,Zac,Zgq,Z9b,Nat.beq_refl,Nat.zero_add,Nat.mul_one,cW]<;>rfl)|apply gS)
   show Z8 31 none (.loop (q100 [1,1,0,1,2,2,1,0,2,1,0,1,2,2])) _ _ _ _
   rw[<-Ta]
   refine (ih _ oM ?_ ?_ ?_ ?_).mono ?_
   ·exact tZ h0
   ·exact tZ h4
   ·simp (decide:=true) only [Zp,reduceIte,hstep,Bool.toNat_false]
    rfl
   ·exact tY
   ·rintro y ds' ts' h' ⟨e1,e2,e3,e4,e5⟩
    refine⟨e1,e2,e3,e4,fun s hs=>?_⟩
    rw[e5 s hs]
    simp (decide:=true) only [Y6 hs]
def Zb2 (f:Nat->Bool) (i:Nat):List C:=(List.range 256).map fun t=>.int .u8 (if t<i then byteOf f t 8 else 0:Nat)
def pack (f:Nat->Bool):List C:=(List.range 256).map fun t=>.int .u8 (byteOf f t 8:Nat)
omit Hh in
theorem Zzl (f:Nat->Bool):Zb2 f 256=pack f:=by
 unfold Zb2 pack
 refine List.map_congr_left fun t ht=>?_
 rw[if_pos (List.mem_range.1 ht)]
omit Hh in
theorem Zzm (f:Nat->Bool):Zb2 f 0=List.replicate 256 (.int .u8 0):=by
 unfold Zb2
 refine List.ext_getElem (by rw[List.length_map,List.length_range,List.length_replicate]) fun t h1 h2=>?_
 rw[List.getElem_replicate,List.getElem_map,if_neg oM]
 rfl
omit Hh in
theorem Zrz (f:Nat->Bool) (i:Nat):(Zb2 f i).length=256:=by simp [Zb2]
omit Hh in
theorem Zuf (f:Nat->Bool) (i:Nat) (hi:i<256):Z0 256 [Zb2 f i] i [.int .u8 (byteOf f i 8:Nat)]=some [Zb2 f (i+1)]:=by
 have e1:i / 256=0:=oM
 have e2:i % 256=i:=oM
 have e3:Nat.blt i (Zb2 f i).length=true:=Gu (by rw[Zrz]; exact hi)
 simp only[Z0,e1,e2,List.getElem?_cons_zero,e3,cond_true,List.set_cons_zero]
 congr 2
 refine List.ext_getElem (by simp [Zb2]) fun t h1 h2=>?_
 simp only[List.getElem_set]
 simp only[Zb2,List.getElem_map,List.getElem_range]
 by_cases e:i=t
 ·subst e
  simp
 ·rw[if_neg e]
  congr 2
  by_cases h3:t<i
  ·rw[if_pos h3,if_pos oM]
  ·rw[if_neg h3,if_neg oM]
omit Hh in
theorem Zy7 (f:Nat->Bool):(V.w (.g (pack f))).flat=true:=by
 simp only[V.flat,W.flat,List.all_eq_true]
 intro x hx
 simp only[pack,List.mem_map] at hx
 obtain⟨t,_,rfl⟩:=hx
 rfl
theorem outer (f:Nat->Bool) (nb r3:Nat) (hne:nb≠r3) (ro:Bool):∀ (k i:Nat) (ts:Zx) (h:Hq),i+k=256->h.get nb=some (.row 1 (Ul f) ro)->h.get r3=some (.row 256 [Zb2 f i] false)->Zg ts 0=.w (.c (.slice nb 0 2048 1))->Zg ts 3=.w (.c (.ptr r3 0))->Zg ts 4=.w (.c (.int .i64 i)) ->
  Z8 31 none (q100 [1,1,0,1,2]) [] ts h fun x ds' ts' h'=>x=.exit 0/\ds'=[]/\h'.next=h.next/\(∀ n,n≠r3->h'.get n=h.get n)/\h'.get r3=some (.row 256 [pack f] false)/\∀ s,s<=3->Zg ts' s=Zg ts s:=by
 intro k
 induction k with
 | zero =>
  intro i ts h hi hb hr h0 h3 h4
  have ei:i=256:=oM
  subst ei
  iterate 6 (first|((first|apply Goes.Zh|apply Goes.ops2 fits Hh Za); · simp (decide:=true) only [go_sem,Zz,H.get_put,H.Zq,Zi,Z9,reduceIte,Nat.reduceAdd,Nat.reduceMul,Z4,Ya,asC,Zp,Yz,Yo,h4]<;>rfl)|apply gS)
  refine⟨rfl,rfl,rfl,fun _ _=>rfl,by rw[hr,Zzl],fun s hs=>?_⟩
  simp (decide:=true) only [Y6 hs]
 | succ k ih =>
  intro i ts h hi hb hr h0 h3 h4
  have d1:decide ((i:Int)<256)=true:=decide_eq_true oM
  iterate 13 (first|((first|apply Goes.Zh|apply Goes.ops2 fits Hh Za); · simp (decide:=true) only [go_sem,Zz,H.get_put,H.Zq,Zi,Z9,reduceIte,Nat.reduceAdd,Nat.reduceMul,Z4,Ya,asC,Zp,Yz,Yo,h4,d1]<;>rfl)|apply gS)
  show Z8 31 none (q100 [1,1,0,1,2,2,1,0,2,1,0,1]) _ _ _ _
  rw[Zd9]
  refine Og ((inner Hh f nb i oM ro h hb 8 _ oM ?_ ?_ ?_ ?_).mono ?_)
  ·exact tZ h0
  ·exact tZ h4
  ·simp (decide:=true) only [Zp,reduceIte]
   rfl
  ·simp (decide:=true) only [Zp,reduceIte]
   rfl
  rintro x ds' ts' h' ⟨rfl,rfl,rfl,e5,elow⟩
  have f0:Zg ts' 0=.w (.c (.slice nb 0 2048 1)):=by rw[elow 0 dM]; simp (decide:=true) only [Zp,reduceIte,h0]
  have f2:Zg ts' 2=Zg ts 2:=by rw[elow 2 dM]; simp (decide:=true) only [Zp,reduceIte]
  have f1:Zg ts' 1=Zg ts 1:=by rw[elow 1 dM]; simp (decide:=true) only [Zp,reduceIte]
  have f3:Zg ts' 3=.w (.c (.ptr r3 0)):=by rw[elow 3 dM]; simp (decide:=true) only [Zp,reduceIte,h3]
  have f4:Zg ts' 4=.w (.c (.int .i64 i)):=by rw[elow 4 dM]; simp (decide:=true) only [Zp,reduceIte,h4]
  have hlt:=Zlk f i 8
  have w8:Jk .u8 (byteOf f i 8:Int)=.int .u8 (byteOf f i 8):=by rw[Z4e]; congr 1; omega
  have w9:Jk .i64 ((i:Int)+1)=.int .i64 ((i+1:Nat):Int):=by rw[wrap64 oM oM]; congr 1
  have b1:Nat.blt i 256=true:=Gu oM
  have wr:=Zuf f i oM
  show Z8 31 none (q100 [1,1,0,1,2,2,1,0,2,1,1]) _ _ _ _
  iterate 2 ((apply Goes.ops2 fits Hh Za; · simp (decide:=true) only [go_sem,Zz,H.get_put,H.Zq,Zi,Z9,reduceIte,Nat.reduceAdd,Nat.reduceMul,f0,f2,f3,f4,e5,w8,w9,b1,wr,hr,U3,Te,Oy,Yai,Yc3,Zaz,Nat.beq_refl,Nat.zero_add,Nat.mul_one]<;>rfl))
  show Z8 31 none (.loop (q100 [1,1,0,1,2,2])) _ _ _ _
  rw[<-Zt6]
  refine (ih (i+1) _ _ oM ?_ ?_ ?_ ?_ ?_).mono ?_
  ·rw[H.get_put,if_neg hne]; exact hb
  ·rw[H.get_put,if_pos rfl]
  ·exact tZ f0
  ·exact tZ f3
  ·exact tY
  ·rintro x ds' ts'' h'' ⟨g1,g2,g3,g4,g5,g6⟩
   refine⟨g1,g2,g3,fun n hn=>?_,g5,fun s hs=>?_⟩
   ·rw[g4 n hn,H.get_put,if_neg hn]
   ·rw[g6 s hs]
    simp (decide:=true) only [Y6 hs]
    rw[elow s (Nat.le_trans hs dM)]
    simp (decide:=true) only [Y6 hs]
theorem Zdd (f:Nat->Bool) (nb:Nat) (ro:Bool) (h:Hq) (hb:h.get nb=some (.row 1 (Ul f) ro)):Zb 100 [.c (.slice nb 0 2048 1)] h (.w (.g (pack f))) h:=by
 refine Zu.tidy ⟨_,Tryz.func100,kR,of_decide_eq_true kR⟩ fun tidy=>?_
 have hnb:=tidy nb _ hb
 have z54:ti87.zero.cells=Zb2 f 0:=by rw[Zzm]; rfl
 have e0:Zg (Ug 0 [.c (.slice nb 0 2048 1)] .nil) 0=.w (.c (.slice nb 0 2048 1)):=by rw[Uw]; rfl
 suffices hs:∃ h',(∀ n,n<h.next->h'.get n=h.get n)/\Zb 100 [.c (.slice nb 0 2048 1)] h (.w (.g (pack f))) h' by
  obtain⟨h',e2,c⟩:=hs
  exact c.quiet (Zy7 f) e2
 suffices hs:Z8 31 none (q100 []) [] (Ug 0 [.c (.slice nb 0 2048 1)] .nil) h fun x ds ts h1=>(∀ n,n<h.next->h1.get n=h.get n)/\leave K Tryz.f100 (some (.at x ds ts h1))=some (.val (.w (.g (pack f))) h1) by
  obtain⟨x,ds,ts,h1,g,e2,e3⟩:=hs
  exact⟨h1,e2,Zu.body fits Hh kR kR kR kR rfl g e3⟩
 iterate 8 (first|(apply Goes.ops2 fits Hh Za; · simp (decide:=true) only [go_sem,Zz,H.get_put,H.Zq,Zi,Z9,reduceIte,Nat.reduceAdd,Nat.reduceMul,e0,U3,Gs,z54]<;>rfl)|apply gS)
 show Z8 31 none (q100 [1,1,0,1,2]) _ _ _ _
 refine (outer Hh f nb (h.next+1) oM ro 256 0 _ _ rfl ?_ ?_ ?_ ?_ ?_).mono ?_
 ·rw[H.Zq,H.Zc,if_neg oM,H.Zq,if_neg oM]; exact hb
 ·rw[H.Zq,H.Zc,if_pos rfl]
 ·exact tZ e0
 ·simp (decide:=true) only [Zp,reduceIte,H.Zc]
 ·simp (decide:=true) only [Zp,reduceIte]
  rfl
 rintro x ds' ts' h' ⟨rfl,rfl,hn,hk,hr,elow⟩
 have f2:Zg ts' 2=.w (.c (.ptr h.next 0)):=by rw[elow 2 dM]; simp (decide:=true) only [Zp,reduceIte]
 have f3:Zg ts' 3=.w (.c (.ptr (h.next+1) 0)):=by rw[elow 3 dM]; simp (decide:=true) only [Zp,reduceIte,H.Zc]
 have hr2:h'.get h.next=some (.row 256 [Zb2 f 0] false):=by
  rw[hk h.next oM,H.Zq,H.Zc,if_neg oM,H.Zq,if_pos rfl]
 have rd:Zn 256 [pack f] 0 256=some (pack f):=by
  have e:(pack f).length=256:=by simp [pack]
  have:=Zax (l:=pack f) oM
  rwa [e] at this
 have wr:Z0 256 [Zb2 f 0] 0 (pack f)=some [pack f]:=by
  have e:(pack f).length=256:=by simp [pack]
  have:=Qi (l:=Zb2 f 0) (l':=pack f) oM (by rw[Zrz,e])
  rwa [e] at this
 have lp:(pack f).length=256:=by simp [pack]
 show Z8 31 none (q100 [1,1,1]) _ _ _ _
 iterate 3 (first|(apply Goes.ops2 fits Hh Za; · simp (decide:=true) only [go_sem,Zz,H.get_put,H.Zq,Zi,Z9,reduceIte,Nat.reduceAdd,Nat.reduceMul,f2,f3,hr,hr2,rd,wr,lp,U3,Ba,Gs,gW,Nat.beq_refl]<;>rfl)|apply gS)
 refine⟨fun n hn'=>?_,?_⟩
 ·rw[H.get_put,if_neg oM,hk n oM,H.Zq,H.Zc,if_neg oM,H.Zq,if_neg oM]
 ·have e1:Tryz.f100.results.toList=[.cell 2 87]:=rfl
  simp (decide:=true) only [Et,Ji,finish,e1,Jb,Z4,Ya,asC,Zp,reduceIte,f2,Go.Ev.load,U3,Zi,Ba,Gs,H.get_put,cond_true,rd,gW,Ue]
end
end Go.Proofs.YtmanipmhebgdbaaGreatDoor
