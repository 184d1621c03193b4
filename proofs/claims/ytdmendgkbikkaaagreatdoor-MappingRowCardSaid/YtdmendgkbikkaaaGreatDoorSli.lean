/- Types of the program, as the evaluator has them. -/
import Derived.Test.YtdmendgkbikkaaaGreatDoorCfg
import Derived.Test.YtdmendgkbikkaaaGreatDoorFits
import Derived.Test.YtdmendgkbikkaaaGreatDoorEvC
import Derived.KernelRfl
set_option linter.unusedSimpArgs false
set_option linter.unusedVariables false
set_option linter.unusedSectionVars false
set_option maxRecDepth 100000
namespace Go.Proofs.YtdmendgkbikkaaaGreatDoor
open Go.Ev
theorem gl:K.globs=Tree.set .nil 0 0:=by kernel_rfl
theorem Ji:K.types.get 3=some ti3:=by kernel_rfl
theorem Oq:ti3.size=1:=rfl
theorem Oj:ti3.agg=false:=rfl
theorem Xc:K.types.get 4=some ti4:=by kernel_rfl
theorem Zc4:ti4.size=1:=rfl
theorem Z1w:ti4.agg=false:=rfl
theorem Ei:K.types.get 5=some ti5:=by kernel_rfl
theorem Z42:ti5.desc=.int .u8:=rfl
theorem Ng:ti5.size=1:=rfl
theorem Tw:ti5.agg=false:=rfl
theorem Z2a:K.types.get 34=some ti34:=by kernel_rfl
theorem Z43:ti34.desc=.int .u32:=rfl
theorem Z60:ti34.size=1:=rfl
theorem Z4g:ti34.agg=false:=rfl
theorem Ug:K.types.get 73=some ti73:=by kernel_rfl
theorem Z2r:ti73.desc=.array 256 5:=rfl
theorem Oo:ti73.size=256:=rfl
theorem O7:ti73.agg=true:=rfl
theorem Nh:K.types.get 174=some ti174:=by kernel_rfl
theorem Vh:ti174.desc=.slice 4:=rfl
theorem Li:K.types.get 145=some ti145:=by kernel_rfl
theorem Zi9:ti145.desc=.slice 5:=rfl
theorem Z3w:ti145.size=1:=rfl
theorem Z2e:ti145.agg=false:=rfl
theorem Zm1:K.types.get 352=some ti352:=by kernel_rfl
theorem Zzv:ti352.desc=.slice 145:=rfl
theorem Z1f:K.types.get 353=some ti353:=by kernel_rfl
theorem Z2t:ti353.desc=.array 16 34:=rfl
theorem Zba {v:Nat} (h:v<4294967296):Yq .u32 (v:Int)=.int .u32 (v:Int):=by
 unfold Yq IntKind.wrap
 congr 1
 show (if (false&&_)=true then _ else (v:Int) % 4294967296)=_
 simp only[Bool.false_and,Bool.false_eq_true,if_false]
 omega
theorem Znv {f:Nat→Nat→Nat} {a b:Nat} (ha:a<4294967296) (hb:b<4294967296) (hf:f a b<4294967296):Bd .u32 f (a:Int) (b:Int)=.int .u32 (f a b:Nat):=by
 have e1:((a:Int) % 2 ^ IntKind.bits .u32).toNat=a:=by show ((a:Int) % 4294967296).toNat=a; omega
 have e2:((b:Int) % 2 ^ IntKind.bits .u32).toNat=b:=by show ((b:Int) % 4294967296).toNat=b; omega
 unfold Bd
 rw[e1,e2]
 exact Zba hf
theorem Zcq {a b:Nat} (ha:a<4294967296) (hb:b<4294967296):Bd .u32 Nat.xor (a:Int) (b:Int)=.int .u32 (Nat.xor a b:Nat):=Znv ha hb (Nat.xor_lt_two_pow (n:=32) ha hb)
theorem Zkv {a b:Nat} (ha:a<4294967296) (hb:b<4294967296):Nat.xor a b<4294967296:=Nat.xor_lt_two_pow (n:=32) ha hb
theorem Uq {a b:Prop} (x:a) (y:b):a∧b:=⟨x,y⟩
theorem Uc {a b c:Prop} (x:a) (y:b) (z:c):a∧b∧c:=⟨x,y,z⟩
theorem Oz {a b c d:Prop} (x:a) (y:b) (z:c) (u:d):a∧b∧c∧d:=⟨x,y,z,u⟩
theorem Mt {a b c d e:Prop} (x:a) (y:b) (z:c) (u:d) (v:e):a∧b∧c∧d∧e:=⟨x,y,z,u,v⟩
theorem Qu {a b c d e f:Prop} (x:a) (y:b) (z:c) (u:d) (v:e) (w:f):a∧b∧c∧d∧e∧f:=⟨x,y,z,u,v,w⟩
theorem Qv {a b c d e f g:Prop} (x:a) (y:b) (z:c) (u:d) (v:e) (w:f) (s:g):a∧b∧c∧d∧e∧f∧g:=⟨x,y,z,u,v,w,s⟩
theorem Zd0 {a b c d e f g h:Prop} (x:a) (y:b) (z:c) (u:d) (v:e) (w:f) (s:g) (t:h):a∧b∧c∧d∧e∧f∧g∧h:=⟨x,y,z,u,v,w,s,t⟩
theorem Ur {a b c d e f g h i:Prop} (x:a) (y:b) (z:c) (u:d) (v:e) (w:f) (s:g) (t:h) (r:i):a∧b∧c∧d∧e∧f∧g∧h∧i:=⟨x,y,z,u,v,w,s,t,r⟩
theorem F5 {f:Go.FuncId} {args:List W} {h:Go.Ev.H} {v0:V} {Q:Go.Ev.H→Prop} (x:∃ v h',Zv K Tryz.prog f args h v h'∧v=v0∧Q h'):∃ h',Zv K Tryz.prog f args h v0 h'∧Q h':=by
 obtain⟨v,h',c,rfl,q⟩:=x
 exact⟨h',c,q⟩
theorem Wo {f:Go.FuncId} {args:List W} {h:Go.Ev.H} {v0:V} (fl:v0.flat=true) (x:∃ v h',Zv K Tryz.prog f args h v h'∧v=v0∧∀ m,m<h.next→h'.get m=h.get m):Zv K Tryz.prog f args h v0 h:=by
 obtain⟨v,h',c,rfl,q⟩:=x
 exact c.quiet fl q
theorem F4 {p:Prop} (g:p:=by (first|(simp (discharger:=omega) only [H.get_put,H.Zd,H.Bb,H.Zc,H.Zf,H.Yo,if_neg]; done)|(simp only[H.get_put,H.Zd,H.Bb,H.Zc,H.Zf,H.Yo]; (repeat' split)<;>first|rfl|(exfalso; omega)|omega))):p:=g
abbrev Zg:=Zv K Tryz.prog
abbrev Ya:=Goes K Tryz.prog
section
variable (Hh:Hearts K Tryz.prog)
include Hh
theorem fnG {f:Go.FuncId} (fn:Go.Func) {body:Go.Code} {args:List W} {v:V} {h h':Go.Ev.H} (g:Goes K Tryz.prog fn.ntmps none body [] (Jj 0 args .nil) h fun x ds ts h1=>leave K fn (some (.at x ds ts h1))=some (.val v h')) (hc:K.clones.contains f=false:=by kernel_rfl) (hs:K.sorted.lookup f=none:=by kernel_rfl) (hf:K.funcs.get f=some fn:=by kernel_rfl) (hb:fn.body=some body:=by exact rfl) (hn:Nat.ble args.length fn.ntmps=true:=by exact rfl):Zv K Tryz.prog f args h v h':=Zv.goes fits Hh hc hs hf hb hn g
theorem Jd {f:Go.FuncId} (fn:Go.Func) {body:Go.Code} {args:List W} {h:Go.Ev.H} {R:V→Go.Ev.H→Prop} (g:Goes K Tryz.prog fn.ntmps none body [] (Jj 0 args .nil) h fun x ds ts h1=>∃ v h',leave K fn (some (.at x ds ts h1))=some (.val v h')∧R v h') (hc:K.clones.contains f=false:=by kernel_rfl) (hs:K.sorted.lookup f=none:=by kernel_rfl) (hf:K.funcs.get f=some fn:=by kernel_rfl) (hb:fn.body=some body:=by exact rfl) (hn:Nat.ble args.length fn.ntmps=true:=by exact rfl):∃ v h',Zv K Tryz.prog f args h v h'∧R v h':=Zv.Z49 fits Hh hc hs hf hb hn g
theorem Zy {n:Nat} {rd:Option Nat} {ds:List Nat} {ts ts':Zw} {h h':Go.Ev.H} {Q:Go.Ev.X→List Nat→Zw→Go.Ev.H→Prop} {id:Nat} {E:Task→Option Out} {ops:Array Go.Oper} (S:Sound K Tryz.prog E) (g:F7 K E ops.toList n ops.toList ts h=some (ts',h')) (q:Q .normal ds ts' h'):Goes K Tryz.prog n rd (.region id ops false) ds ts h Q:=Goes.ops2 fits Hh S g q
theorem Ms {n:Nat} {rd:Option Nat} {ds:List Nat} {ts ts':Zw} {h h':Go.Ev.H} {Q:Go.Ev.X→List Nat→Zw→Go.Ev.H→Prop} {id:Nat} {E:Task→Option Out} {ops:Array Go.Oper} (S:Sound K Tryz.prog E) (g:Zln K ops.toList (Q4 K E ops.toList n 0 ops.toList ⟨ts,h,h,[],[]⟩)=some (ts',h')) (q:Q .normal ds ts' h') (st:(R7 0 ops.toList&&Sy ops.toList 0 ops.toList&&Le ops.toList 0 none [] ops.toList)=true:=by kernel_rfl):Goes K Tryz.prog n rd (.region id ops true) ds ts h Q:=Goes.drawn2 fits Hh S st g q
end
theorem Jg {p:Prop} (g:p:=by simp (disch:=first|omega|(simp only[lens]<;>omega)) only [go_sem]):p:=g
theorem Jk {p:Prop} (g:p:=by simp (maxSteps:=9^6) +decide (disch:=first|omega|(simp only[lens]<;>omega)|decide) only [go_sem,Ze,simprocAttr,Z8]<;>rfl):p:=g
theorem Z5 {p:Prop} (g:p:=by simp (maxSteps:=9^6) +decide (disch:=first|omega|(simp only[lens]<;>omega)|decide) only [go_sem,Ze,simprocAttr,Z8,Jf]<;>rfl):p:=g
theorem Z2f {p:Prop} (g:p:=by simp (maxSteps:=9^6) +decide (disch:=first|omega|(simp only[lens]<;>omega)|decide) only [go_sem,Ze,simprocAttr,Z8,Yr,Zt]<;>rfl):p:=g
theorem Df {p:Prop} (g:p:=by simp (maxSteps:=9^6) +decide (disch:=first|omega|(simp only[lens]<;>omega)|decide) only [go_sem,Ze,simprocAttr,Z8,Yr,Zt,Jf]<;>rfl):p:=g
theorem Ob {p:Prop} (g:p:=by simp (maxSteps:=9^6) +decide (disch:=first|omega|(simp only[lens]<;>omega)|decide) only [go_sem,Ze,simprocAttr,Z8,Yr,Zt,J6,We,List.map_cons,List.map_nil,List.cons_append,List.nil_append,Na,Mo,bound,Zct,Jf]<;>rfl):p:=g
theorem Zd3 {p:Prop} (g:p:=by simp (maxSteps:=9^6) +decide (disch:=first|omega|(simp only[lens]<;>omega)|decide) only [go_sem,Ze,simprocAttr,Z8,Yr,Zt,J6,We,List.map_cons,List.map_nil,List.cons_append,List.nil_append,Na,Mo,bound,Zct,drG,Jf]<;>rfl):p:=g
theorem O4 {p:Prop} (g:p:=by simp (maxSteps:=9^6) +decide (disch:=first|omega|(simp only[lens]<;>omega)|decide) only [go_sem,Ze,simprocAttr,Z8,Yr,Zt,Ed,Jf]<;>rfl):p:=g
theorem G8 {p:Prop} (g:p:=by simp (maxSteps:=9^6) +decide (disch:=first|omega|(simp only[lens]<;>omega)|decide) only [go_sem,Ze,simprocAttr,Z8,read1,Jf]<;>rfl):p:=g
theorem Zk7 {p:Prop} (g:p:=by simp (maxSteps:=9^6) +decide (disch:=first|omega|(simp only[lens]<;>omega)|decide) only [go_sem,Ze,simprocAttr,Z8,read1,drG,Jf]<;>rfl):p:=g
theorem Zde {p:Prop} (g:p:=by simp (maxSteps:=9^6) +decide (disch:=first|omega|(simp only[lens]<;>omega)|decide) only [go_sem,Ze,simprocAttr,Z8,read1,Yr,Zt,Jf]<;>rfl):p:=g
theorem Zus {p:Prop} (g:p:=by simp (maxSteps:=9^6) +decide (disch:=first|omega|(simp only[lens]<;>omega)|decide) only [go_sem,Ze,simprocAttr,Z8,read1,Yr,Zt,drG,Jf]<;>rfl):p:=g
theorem Uf {p:Prop} (g:p:=by simp (maxSteps:=9^6) +decide (disch:=first|omega|(simp only[lens]<;>omega)|decide) only [go_sem,Ze,simprocAttr,Z8,read1,Yr,Zt,J6,Jf]<;>rfl):p:=g
theorem Zd4 {p:Prop} (g:p:=by simp (maxSteps:=9^6) +decide (disch:=first|omega|(simp only[lens]<;>omega)|decide) only [go_sem,Ze,simprocAttr,Z8,read1,Yr,Zt,J6,drG,Jf]<;>rfl):p:=g
theorem Zj {p:Prop} (g:p:=by simp (maxSteps:=9^6) +decide (disch:=first|omega|(simp only[lens]<;>omega)|decide) only [go_sem,Zm,Ze,simprocAttr,Z8]<;>rfl):p:=g
theorem Zq {p:Prop} (g:p:=by simp (maxSteps:=9^6) +decide (disch:=first|omega|(simp only[lens]<;>omega)|decide) only [go_sem,Zm,Ze,simprocAttr,Z8,Jf]<;>rfl):p:=g
theorem Vb {p:Prop} (g:p:=by simp (maxSteps:=9^6) +decide (disch:=first|omega|(simp only[lens]<;>omega)|decide) only [go_sem,Zm,Ze,simprocAttr,Z8,drG,Jf]<;>rfl):p:=g
theorem Nl {p:Prop} (g:p:=by simp (maxSteps:=9^6) +decide (disch:=first|omega|(simp only[lens]<;>omega)|decide) only [go_sem,Zm,Ze,simprocAttr,Z8,Yr,Zt]<;>rfl):p:=g
theorem Qw {p:Prop} (g:p:=by simp (maxSteps:=9^6) +decide (disch:=first|omega|(simp only[lens]<;>omega)|decide) only [go_sem,Zm,Ze,simprocAttr,Z8,Yr,Zt,Jf]<;>rfl):p:=g
theorem Je {p:Prop} (g:p:=by simp (maxSteps:=9^6) +decide (disch:=first|omega|(simp only[lens]<;>omega)|decide) only [go_sem,Zm,Ze,simprocAttr,Z8,Yr,Zt,J6,Jf]<;>rfl):p:=g
theorem Zuu {p:Prop} (g:p:=by simp (maxSteps:=9^6) +decide (disch:=first|omega|(simp only[lens]<;>omega)|decide) only [go_sem,Zm,Ze,simprocAttr,Z8,Yr,Zt,J6,drG,Jf]<;>rfl):p:=g
theorem Zdf {p:Prop} (g:p:=by simp (maxSteps:=9^6) +decide (disch:=first|omega|(simp only[lens]<;>omega)|decide) only [go_sem,Zm,Ze,simprocAttr,Z8,Yr,Zt,We,List.map_cons,List.map_nil,List.cons_append,List.nil_append,Jf]<;>rfl):p:=g
theorem Zuv {p:Prop} (g:p:=by simp (maxSteps:=9^6) +decide (disch:=first|omega|(simp only[lens]<;>omega)|decide) only [go_sem,Zm,Ze,simprocAttr,Z8,Yr,Zt,We,List.map_cons,List.map_nil,List.cons_append,List.nil_append,drG,Jf]<;>rfl):p:=g
theorem Xg {p:Prop} (g:p:=by simp (maxSteps:=9^6) +decide (disch:=first|omega|(simp only[lens]<;>omega)|decide) only [go_sem,Zm,Ze,simprocAttr,Z8,Yr,Zt,We,List.map_cons,List.map_nil,List.cons_append,List.nil_append,Na,Mo,bound,Zct,Jf]<;>rfl):p:=g
theorem Z2g {p:Prop} (g:p:=by simp (maxSteps:=9^6) +decide (disch:=first|omega|(simp only[lens]<;>omega)|decide) only [go_sem,Zm,Ze,simprocAttr,Z8,read1]<;>rfl):p:=g
theorem Yi {p:Prop} (g:p:=by simp (maxSteps:=9^6) +decide (disch:=first|omega|(simp only[lens]<;>omega)|decide) only [go_sem,Zm,Ze,simprocAttr,Z8,read1,Jf]<;>rfl):p:=g
theorem Zuw {p:Prop} (g:p:=by simp (maxSteps:=9^6) +decide (disch:=first|omega|(simp only[lens]<;>omega)|decide) only [go_sem,Zm,Ze,simprocAttr,Z8,read1,drG,Jf]<;>rfl):p:=g
theorem Xh {p:Prop} (g:p:=by simp (maxSteps:=9^6) +decide (disch:=first|omega|(simp only[lens]<;>omega)|decide) only [go_sem,Zm,Ze,simprocAttr,Z8,read1,Yr,Zt,Jf]<;>rfl):p:=g
theorem Ld {p:Prop} (g:p:=by simp (maxSteps:=9^6) +decide (disch:=first|omega|(simp only[lens]<;>omega)|decide) only [go_sem,Zm,Ze,simprocAttr,Z8,read1,Yr,Zt,J6,Jf]<;>rfl):p:=g
theorem Zzd {p:Prop} (g:p:=by simp (maxSteps:=9^6) +decide (disch:=first|omega|(simp only[lens]<;>omega)|decide) only [go_sem,Zm,Ze,simprocAttr,Z8,read1,Yr,Zt,We,List.map_cons,List.map_nil,List.cons_append,List.nil_append,Jf]<;>rfl):p:=g
theorem Zqk {p:Prop} (g:p:=by simp (maxSteps:=9^6) +decide (disch:=first|omega|(simp only[lens]<;>omega)|decide) only [go_sem,Zm,Ze,simprocAttr,Z8,Z9,Jf]<;>rfl):p:=g
theorem Zql {p:Prop} (g:p:=by simp (maxSteps:=9^6) +decide (disch:=first|omega|(simp only[lens]<;>omega)|decide) only [go_sem,Zm,Ze,simprocAttr,Z8,Z9,Yr,Zt,We,List.map_cons,List.map_nil,List.cons_append,List.nil_append,Jf]<;>rfl):p:=g
theorem Zdg {p:Prop} (g:p:=by simp (maxSteps:=9^6) +decide (disch:=first|omega|(simp only[lens]<;>omega)|decide) only [go_sem,Zm,Ze,simprocAttr,Z8,read1,Z9,Jf]<;>rfl):p:=g
theorem Z2h {p:Prop} (g:p:=by simp (maxSteps:=9^6) +decide (disch:=first|omega|(simp only[lens]<;>omega)|decide) only [go_sem,Zm,Ze,simprocAttr,Z8,read1,Z9,Yr,Zt]<;>rfl):p:=g
theorem Xi {p:Prop} (g:p:=by simp (maxSteps:=9^6) +decide (disch:=first|omega|(simp only[lens]<;>omega)|decide) only [go_sem,Zm,Ze,simprocAttr,Z8,read1,Z9,Yr,Zt,Jf]<;>rfl):p:=g
theorem Zd5 {p:Prop} (g:p:=by simp (maxSteps:=9^6) +decide (disch:=first|omega|(simp only[lens]<;>omega)|decide) only [go_sem,Zm,Ze,simprocAttr,Z8,read1,Z9,Yr,Zt,drG,Jf]<;>rfl):p:=g
theorem Zqm {p:Prop} (g:p:=by simp (maxSteps:=9^6) +decide (disch:=first|omega|(simp only[lens]<;>omega)|decide) only [go_sem,Zm,Ze,simprocAttr,Z8,read1,Z9,Yr,Zt,J6,Jf]<;>rfl):p:=g
theorem Zux {p:Prop} (g:p:=by simp (maxSteps:=9^6) +decide (disch:=first|omega|(simp only[lens]<;>omega)|decide) only [go_sem,Zm,Ze,simprocAttr,Z8,read1,Z9,Yr,Zt,J6,drG,Jf]<;>rfl):p:=g
theorem Zze {p:Prop} (g:p:=by simp (maxSteps:=9^6) +decide (disch:=first|omega|(simp only[lens]<;>omega)|decide) only [go_sem,Zm,Ze,simprocAttr,Z8,read1,Z9,Yr,Zt,We,List.map_cons,List.map_nil,List.cons_append,List.nil_append,Jf]<;>rfl):p:=g
end Go.Proofs.YtdmendgkbikkaaaGreatDoor
set_option maxRecDepth 100000
set_option maxHeartbeats 4000000
namespace Go.Proofs.YtdmendgkbikkaaaGreatDoor
open Go.Ev
theorem ty3:K.types.get 3=some ti3:=by kernel_rfl
theorem sz3:ti3.size=1:=by rfl
theorem ag3:ti3.agg=false:=by rfl
theorem de3:ti3.desc=(.int .i64):=by rfl
theorem ze3:ti3.zero=(.c (.int .i64 0)):=by rfl
theorem by3:ti3.bytes=8:=by rfl
theorem ke3 (k:IntKind) (n:Int):Di K 20 3 (.c (.int k n))=true:=by kernel_rfl
theorem ty40:K.types.get 40=some ti40:=by kernel_rfl
theorem sz40:ti40.size=1:=by rfl
theorem ag40:ti40.agg=false:=by rfl
theorem de40:ti40.desc=(.slice 3):=by rfl
theorem ze40:ti40.zero=(.c (.snil)):=by rfl
theorem by40:ti40.bytes=24:=by rfl
theorem el40:Y1 K 40=some ti3:=by kernel_rfl
attribute [go_sem] ty3 sz3 ag3 de3 ze3 by3 ke3 ty40 sz40 ag40 de40 ze40 by40 el40
theorem rs86:Tryz.f86.results.toList=[.tmp 4]:=rfl
theorem rs41:Tryz.f41.results.toList=[.tmp 4]:=rfl
attribute [go_sem] rs86 rs41
def rwI (l:List Nat):List (List C):=l.map fun (x:Nat)=>[.int .i64 (x:Int)]
theorem Xx (l:List Nat):(rwI l).length=l.length:=by simp [rwI]
theorem Z3v {l:List Nat} {k x:Nat} (h:l[k]? = some x):(rwI l)[k]? = some [.int .i64 (x:Int)]:=by simp [rwI,h]
theorem rdI {l:List Nat} {k x:Nat} (h:l[k]? = some x):read1 1 (rwI l) k=some (.int .i64 (x:Int)):=by
 have:=Ee (sz:=1) (i:=k) (j:=0) (by omega) (Z3v h)
 rw[Nat.mul_one,Nat.add_zero] at this
 exact this
def SlI (h:Go.Ev.H) (c:C) (l:List Nat):Prop:=(l=[]∧c=.snil)∨∃ p,0<l.length∧c=.slice p 0 l.length 1∧h.get p=some (.row 1 (rwI l) false)
theorem SlI.keep {h h2:Go.Ev.H} {c:C} {l:List Nat} (s:SlI h c l) (k:∀ p o n z,c=.slice p o n z→h2.get p=h.get p):SlI h2 c l:=by
 rcases s with s|⟨p,h1,rfl,h2⟩
 ·exact .inl s
 ·exact .inr ⟨p,h1,rfl,(k _ _ _ _ rfl).trans h2⟩
theorem Vv (p o l:Nat):Yv K 40 (.c (.slice p o l 1))=true:=by kernel_rfl
theorem Zjp:Yv K 40 (.c .snil)=true:=by kernel_rfl
section
variable (Hh:Hearts K Tryz.prog)
include Hh
end
theorem Z19:K.types.get 40=some ti40:=by kernel_rfl
theorem Zj6 (n off len sz:Nat):Jb K 40 (.slice n off len sz)=true:=by unfold Jb; rw[Z19]; rfl
theorem Z05:Jb K 40 .snil=true:=by unfold Jb; rw[Z19]; rfl
theorem Z4m:ti3.bytes=8:=rfl
theorem Z5t:ti3.size=1:=rfl
theorem Z4u (h:Go.Ev.H) (c:C):Y4 h 1 (some ti3) (some [(0,.c c)])=some (.w (.c (.slice h.next 0 1 1)),h.new (.row 1 [[c]] false)):=rfl
theorem Z5c {h:Go.Ev.H} {n:Nat} {L:List (List C)} (x:List C) (ho:h.get n=some (.row 1 L false)) (hn:n<h.next) (hl:L.length≤4000) :
  Uy (h.new (.row 1 [x] false)) (some ti3) (.slice n 0 L.length 1) (.slice h.next 0 1 1)=some (.w (.c (.slice (h.next+1) 0 (L.length+1) 1)),((h.new (.row 1 [x] false)).del n).new (.row 1 (L++[x]) false)) :=
 Xf (M:=[x]) Z5t (by rw[H.Zd,if_neg (by omega)]; exact ho) (by rw[H.Zd,if_pos rfl]) (by simp) (by rw[Z4m]; show (L.length+1) * 8≤_; omega) (by show L.length+1≤_; omega)
theorem Z22 {h:Go.Ev.H} (x:List C) :
  Uy (h.new (.row 1 [x] false)) (some ti3) .snil (.slice h.next 0 1 1)=some (.w (.c (.slice (h.next+1) 0 1 1)),(h.new (.row 1 [x] false)).new (.row 1 [x] false)) :=
 append_nil (M:=[x]) Z5t (by rw[H.Zd,if_pos rfl]) (by simp) (by rw[Z4m]; show 1 * 8≤_; omega) (by show 1≤_; omega)
theorem Zxd (l:List Nat) (x:Nat):rwI l++[[.int .i64 (x:Int)]]=rwI (l++[x]):=by simp [rwI]
theorem Z61 {h:Go.Ev.H} {c:C} {l:List Nat} (s:SlI h c l):Jb K 40 c=true:=by
 rcases s with ⟨_,rfl⟩|⟨p,_,rfl,_⟩
 ·exact Z05
 ·exact Zj6 ..
theorem Zwc {h:Go.Ev.H} {c:C} {l:List Nat} (s:SlI h c l):Yv K 40 (.c c)=true∧∀ h,J6 K h 40 (.c c)=some (.int .i64 (l.length:Nat)):=by
 rcases s with ⟨rfl,rfl⟩|⟨p,_,rfl,_⟩
 ·exact⟨Zjp,fun _=>rfl⟩
 ·exact⟨Vv ..,fun _=>rfl⟩
end Go.Proofs.YtdmendgkbikkaaaGreatDoor
