/- geo of a geometry that may be, as the walks ask it: data, groups' starts, inodes. -/
import Derived.Test.YtgikjeaipmeclaaGreatDoorBeg
import Derived.Test.YtgikjeaipmeclaaGreatDoorBeg3
import Derived.Test.YtgikjeaipmeclaaGreatDoorSto3
import Derived.Test.YtgikjeaipmeclaaGreatDoorSto4
set_option linter.unusedSimpArgs false
set_option linter.unusedVariables false
set_option linter.unusedSectionVars false
set_option maxRecDepth 100000
set_option maxHeartbeats 4000000
namespace Go.Proofs.YtgikjeaipmeclaaGreatDoor
open Go.Ev
noncomputable def X5 (a b c d:Int) (k:Nat→Nat→Nat→Nat→Option (V × Go.Ev.H)):Option (V × Go.Ev.H):=(J3 a).bind fun a=>(J3 b).bind fun b=>(J3 c).bind fun c=>(J3 d).bind fun d=>Yr (Y4 a b c d) (k a b c d)
theorem Na {a b c d:Int} {k:Nat→Nat→Nat→Nat→Option (V × Go.Ev.H)} {r:V × Go.Ev.H} (e:X5 a b c d k=some r):∃ a' b' c' d':Nat,a=a'∧b=b'∧c=c'∧d=d'∧Y4 a' b' c' d'=true∧k a' b' c' d'=some r:=by
 obtain⟨a',ha,e⟩:=Zl e
 obtain⟨b',hb,e⟩:=Zl e
 obtain⟨c',hc,e⟩:=Zl e
 obtain⟨d',hd,e⟩:=Zl e
 obtain⟨f,e⟩:=Zq.1 e
 exact⟨a',b',c',d',Yb ha,Yb hb,Yb hc,Yb hd,f,e⟩
noncomputable def Zmp:Kn1:=fun args h=>match args with
 | [.g [.int .i64 a,.int .i64 b,.int .i64 c,.int .i64 d]]=>X5 a b c d fun _ b c _=>some (.w (.c (.int .i64 ((b - 2 - c / 4:Nat):Int))),h)
 | _=>none
noncomputable def Zi8:Kn1:=fun args h=>match args with
 | [.g [.int .i64 a,.int .i64 b,.int .i64 c,.int .i64 d],.c (.int .i64 k)]=>X5 a b c d fun a b _ d=>(J3 k).bind fun k=>Yr (decide (k<a)) (some (.tup [.c (.int .i64 ((2+d+k * b:Nat):Int)),.c (.bool true)],h))
 | _=>none
noncomputable def Zwj:Kn1:=fun args h=>match args with
 | [.g [.int .i64 a,.int .i64 b,.int .i64 c,.int .i64 d]]=>X5 a b c d fun a _ c _=>some (.w (.c (.int .i64 ((a * c:Nat):Int))),h)
 | _=>none
noncomputable def Zu7:Kn1:=fun args h=>match args with
 | [.g [.int .i64 a,.int .i64 b,.int .i64 c,.int .i64 d],.c (.int .i64 k),.c (.int .i64 i)]=>X5 a b c d fun a _ c _=>(J3 k).bind fun k=>(J3 i).bind fun i=>Yr (decide (k<a)&&decide (i<c)) (some (.w (.c (.int .i64 ((k * c+i+1:Nat):Int))),h))
 | _=>none
noncomputable def Z0k:Kn1:=fun args h=>match args with
 | [.g [.int .i64 a,.int .i64 b,.int .i64 c,.int .i64 d],.c (.int .i64 z)]=>X5 a b c d fun a _ c _=>bif decide (1≤z)&&decide (z≤((a * c:Nat):Int)) then some (.tup [.c (.int .i64 (((z.toNat - 1) / c:Nat):Int)),.c (.int .i64 (((z.toNat - 1) % c:Nat):Int)),.c (.bool true)],h) else some (.tup [.c (.int .i64 0),.c (.int .i64 0),.c (.bool false)],h)
 | _=>none
noncomputable def Zxs:Kn1:=fun args h=>match args with
 | [.g [.int .i64 a,.int .i64 b,.int .i64 c,.int .i64 d],.c (.int .i64 z)]=>X5 a b c d fun a b c d=>bif decide (1≤z)&&decide (z≤((a * c:Nat):Int)) then some (.tup [.c (.int .i64 ((2+d+(z.toNat - 1) / c * b+2+(z.toNat - 1) % c / 4:Nat):Int)),.c (.int .i64 (((z.toNat - 1) % c % 4 * 64:Nat):Int)),.c (.bool true)],h) else some (.tup [.c (.int .i64 0),.c (.int .i64 0),.c (.bool false)],h)
 | _=>none
attribute [go_sem] X5 Zmp Zi8 Zwj Zu7 Z0k Zxs
section
variable (Hh:Hearts K Tryz.prog)
include Hh
theorem Zqk {args:List W} {h h':Go.Ev.H} {v:V} (e:Zmp args h=some (v,h')):Ze K Tryz.prog 253 args h v h':=by
 unfold Zmp at e
 split at e
 ·obtain⟨a,b,c,d,rfl,rfl,rfl,rfl,f,e⟩:=Na e
  obtain⟨g1,g2,g3,g4,g5,g6,g7,g8,g9,g10,g11⟩:=Yk f
  cases e
  have q1:Dz .i64 (c:Int) 4=some (.int .i64 ((c / 4:Nat):Int)):=Dn (b:=4) (by omega) (by omega)
  have e2:(b:Int) - 2=((b - 2:Nat):Int):=by omega
  have e3:((b - 2:Nat):Int) - ((c / 4:Nat):Int)=((b - 2 - c / 4:Nat):Int):=by omega
  obtain⟨v,h',cc,rfl,hk⟩:∃ v h',Ze K Tryz.prog 253 [.g [.int .i64 (a:Int),.int .i64 (b:Int),.int .i64 (c:Int),.int .i64 (d:Int)]] h v h'∧v=.w (.c (.int .i64 ((b - 2 - c / 4:Nat):Int)))∧∀ m,m<h.next→h'.get m=h.get m:=by
   refine Ze.Yi fits Hh (by kernel_rfl) (by kernel_rfl) (by kernel_rfl) (show Tryz.f253.body=some _ from rfl) rfl ?_
   repeat (first|apply Goes.seq|apply Goes.block|apply Goes.loop|apply Goes.skip|apply Goes.exit|apply Goes.ret|((first|apply Goes.Zm|apply Goes.ops2 fits Hh (Zf Zc (fun _ _ _ _=>Gm Hh))); · simp (maxSteps:=9^6) +decide (disch:=first|omega|(simp only[lens]<;>omega)|decide) only [go_sem,Zb,Za,simprocAttr,f,q1,e2,e3,read1,Zx]<;>rfl))
   exact⟨_,_,(by simp (maxSteps:=9^6) +decide (disch:=first|omega|(simp only[lens]<;>omega)|decide) only [go_sem,Zb,Za,simprocAttr]<;>rfl),rfl,fun m hm=>by simp (disch:=first|omega|(simp only[lens]<;>omega)) only [go_sem]⟩
  exact cc.quiet rfl hk
 ·cases e
theorem Wi {args:List W} {h h':Go.Ev.H} {v:V} (e:Zi8 args h=some (v,h')):Ze K Tryz.prog 148 args h v h':=by
 unfold Zi8 at e
 split at e
 ·obtain⟨a,b,c,d,rfl,rfl,rfl,rfl,f,e⟩:=Na e
  obtain⟨g1,g2,g3,g4,g5,g6,g7,g8,g9,g10,g11⟩:=Yk f
  obtain⟨k,hk,e⟩:=Zl e
  obtain⟨bk,e⟩:=Zq.1 e
  have kl:=of_decide_eq_true bk
  cases e
  rw[Yb hk]
  have b1:k * b≤a * b:=Nat.mul_le_mul (by omega) (by omega)
  have gi:(k:Int) * (b:Int)=((k * b:Nat):Int):=rfl
  obtain⟨v,h',cc,rfl,hk⟩:∃ v h',Ze K Tryz.prog 148 [.g [.int .i64 (a:Int),.int .i64 (b:Int),.int .i64 (c:Int),.int .i64 (d:Int)],.c (.int .i64 (k:Int))] h v h'∧v=.tup [.c (.int .i64 ((2+d+k * b:Nat):Int)),.c (.bool true)]∧∀ m,m<h.next→h'.get m=h.get m:=by
   refine Ze.Yi fits Hh (by kernel_rfl) (by kernel_rfl) (by kernel_rfl) (show Tryz.f148.body=some _ from rfl) rfl ?_
   repeat (first|apply Goes.seq|apply Goes.block|apply Goes.loop|apply Goes.skip|apply Goes.exit|apply Goes.ret|((first|apply Goes.Zm|apply Goes.ops2 fits Hh (Zf Zc (fun _ _ _ _=>Gm Hh))); · simp (maxSteps:=9^6) +decide (disch:=first|omega|(simp only[lens]<;>omega)|decide) only [go_sem,Zb,Za,simprocAttr,f,gi,read1,Zx]<;>rfl))
   exact⟨_,_,(by simp (maxSteps:=9^6) +decide (disch:=first|omega|(simp only[lens]<;>omega)|decide) only [go_sem,Zb,Za,simprocAttr]<;>rfl),rfl,fun m hm=>by simp (disch:=first|omega|(simp only[lens]<;>omega)) only [go_sem]⟩
  exact cc.quiet rfl hk
 ·cases e
end
theorem rs147:Tryz.f147.results.toList=[.cell 2 48]:=rfl
theorem rs44:Tryz.f44.results.toList=[.tmp 2]:=rfl
theorem rs45:Tryz.f45.results.toList=[.tmp 2]:=rfl
attribute [go_sem] rs147 rs44 rs45
noncomputable def Zs8:Kn1:=fun args h=>match args with
 | [.c (.ptr s 0)]=>(Ot h s).bind fun S=>(Bn h S.gd).bind fun G=>some (.w (.g (Yn G.gr G.sz G.ino G.jr)),h)
 | _=>none
noncomputable def Zmx:Kn1:=fun args h=>match args with
 | [.c (.ptr s 0)]=>(Ot h s).bind fun _=>some (.w (.c (.bool false)),h)
 | _=>none
noncomputable def Zwz:Kn1:=fun args h=>match args with
 | [.c (.ptr s 0)]=>(Ot h s).bind fun S=>(Uo h S.tx).bind fun X=>some (.w (.c (.bool X.op)),h)
 | _=>none
noncomputable def Z1t:Kn1:=fun args h=>match args with
 | [.c (.ptr s 0)]=>(Ot h s).bind fun S=>(Bn h S.gd).bind fun _=>some (.w (.c (.int .i64 0)),h)
 | _=>none
noncomputable def Z1g:Kn1:=fun args h=>match args with
 | [.c (.ptr s 0)]=>(Ot h s).bind fun S=>(Bn h S.gd).bind fun _=>(Uo h S.tx).bind fun X=>Yr X.op (some (.w (.c (.int .i64 0)),h))
 | _=>none
noncomputable def Zws:Kn1:=fun args h=>match args with
 | [.g [.int .i64 a,.int .i64 b,.int .i64 c,.int .i64 d],.c (.int .i64 k)]=>X5 a b c d fun a b _ d=>(J3 k).bind fun k=>Yr (decide (k<a)) (some (.w (.c (.int .i64 ((2+d+k * b+1:Nat):Int))),h))
 | _=>none
attribute [go_sem] Zs8 Zmx Zwz Z1t Z1g Zws
section
variable (Hh:Hearts K Tryz.prog)
include Hh
theorem Dq {args:List W} {h h':Go.Ev.H} {v:V} (e:Zs8 args h=some (v,h')):Ze K Tryz.prog 147 args h v h':=by
 unfold Zs8 at e
 split at e
 ·rename_i s
  obtain⟨S,hs,e⟩:=Zl e
  have hs:=Yx hs
  obtain⟨G,hg,e⟩:=Zl e
  obtain⟨hg,fb⟩:=Ja hg
  cases e
  refine Ze.tidy ⟨Tryz.f147,Tryz.func147,by kernel_rfl,by decide⟩ fun tidy=>?_
  have l1:=tidy _ _ hs
  have l2:=tidy _ _ hg
  have gl4:Zb 9 [gdL G] 0 4=some (Yn G.gr G.sz G.ino G.jr):=rfl
  have gl5:∀ x:List C,x.length≤4∧4≤x.length→Z4 4 [x] 0 (Yn G.gr G.sz G.ino G.jr)=some [Yn G.gr G.sz G.ino G.jr]:=fun x hx=>Tf ⟨Nat.le_refl 4,Nat.le_refl 4,hx.1,hx.2,by omega⟩
  have gl6:Zb 4 [Yn G.gr G.sz G.ino G.jr] 0 4=some (Yn G.gr G.sz G.ino G.jr):=rfl
  obtain⟨v,h',c,rfl,hk⟩:∃ v h',Ze K Tryz.prog 147 [.c (.ptr s 0)] h v h'∧v=.w (.g (Yn G.gr G.sz G.ino G.jr))∧∀ m,m<h.next→h'.get m=h.get m:=by
   refine Ze.Yi fits Hh (by kernel_rfl) (by kernel_rfl) (by kernel_rfl) (show Tryz.f147.body=some _ from rfl) rfl ?_
   repeat (first|apply Goes.seq|apply Goes.block|apply Goes.loop|apply Goes.skip|apply Goes.exit|apply Goes.ret|((first|apply Goes.Zm|apply Goes.ops2 fits Hh (Zf Zc (fun _ _ _ _=>Ut Hh))); · simp (maxSteps:=9^6) +decide (disch:=first|omega|(simp only[lens]<;>omega)|decide) only [go_sem,Za,simprocAttr,hs,hg,gl4,gl5,gl6,read1]<;>rfl))
   exact⟨_,_,(by simp (maxSteps:=9^6) +decide (disch:=first|omega|(simp only[lens]<;>omega)|decide) only [go_sem,Za,simprocAttr,gl6]<;>rfl),rfl,fun m hm=>by simp (disch:=first|omega|(simp only[lens]<;>omega)) only [go_sem]⟩
  exact c.quiet rfl hk
 ·cases e
theorem Zbo {args:List W} {h h':Go.Ev.H} {v:V} (e:Zmx args h=some (v,h')):Ze K Tryz.prog 44 args h v h':=by
 unfold Zmx at e
 split at e
 ·rename_i s
  obtain⟨S,hs,e⟩:=Zl e
  have hs:=Yx hs
  cases e
  refine Ze.goes fits Hh (by kernel_rfl) (by kernel_rfl) (by kernel_rfl) (show Tryz.f44.body=some _ from rfl) rfl ?_
  repeat (first|apply Goes.seq|apply Goes.block|apply Goes.loop|apply Goes.skip|apply Goes.exit|apply Goes.ret|((first|apply Goes.Zm|apply Goes.ops2 fits Hh (Zf Zc (fun _ _ _ _=>Ut Hh))); · simp (maxSteps:=9^6) +decide (disch:=first|omega|(simp only[lens]<;>omega)|decide) only [go_sem,Zb,Za,simprocAttr,hs,read1]<;>rfl))
  simp (maxSteps:=9^6) +decide (disch:=first|omega|(simp only[lens]<;>omega)|decide) only [go_sem,Zb,Za,simprocAttr]<;>rfl
 ·cases e
theorem Zdv {args:List W} {h h':Go.Ev.H} {v:V} (e:Zwz args h=some (v,h')):Ze K Tryz.prog 45 args h v h':=by
 unfold Zwz at e
 split at e
 ·rename_i s
  obtain⟨S,hs,e⟩:=Zl e
  have hs:=Yx hs
  obtain⟨X,ht,e⟩:=Zl e
  have ht:=Ym ht
  cases e
  refine Ze.goes fits Hh (by kernel_rfl) (by kernel_rfl) (by kernel_rfl) (show Tryz.f45.body=some _ from rfl) rfl ?_
  repeat (first|apply Goes.seq|apply Goes.block|apply Goes.loop|apply Goes.skip|apply Goes.exit|apply Goes.ret|((first|apply Goes.Zm|apply Goes.ops2 fits Hh (Zf (Zf Zc (fun _ _ _ _=>Ut Hh)) (fun _ _ _ _=>Zbs Hh))); · simp (maxSteps:=9^6) +decide (disch:=first|omega|(simp only[lens]<;>omega)|decide) only [go_sem,Zb,Za,simprocAttr,hs,ht,read1]<;>rfl))
  simp (maxSteps:=9^6) +decide (disch:=first|omega|(simp only[lens]<;>omega)|decide) only [go_sem,Zb,Za,simprocAttr]<;>rfl
 ·cases e
end
theorem Zan {a b c e z:Nat} (F:Fine a b c e) (h1:2+e≤z) (h2:z<2+e+a * b):O6 a b c e (z:Int)=true:=by
 obtain⟨g1,g2,g3,g4,g5,g6,g7,g8,g9,g10,g11⟩:=F
 unfold O6
 rw[decide_eq_true (by omega),Int.toNat_natCast]
 unfold Us
 rw[if_neg (by omega),if_neg (by omega),if_neg (by omega),if_neg (by omega)]
 split
 ·rfl
 ·split
  ·rfl
  ·split<;>rfl
theorem Zeu (a b c e:Nat):O6 a b c e ((1:Nat):Int)=true:=by
 unfold O6
 rw[decide_eq_true (by omega),Int.toNat_natCast]
 unfold Us
 rw[if_neg (by omega),if_pos (by omega)]
 rfl
def Seen (lm:G6) (L:List (List C)):Prop:=∀ (z:Nat) (y:List C),Y6 (z:Int) lm=some y→∃ x,L[z]? = some x∧y=x++[.bool false]
theorem Zv4 (L:List (List C)):Seen [] L:=fun _ _ e=>by cases e
theorem Seen.upd {lm:G6} {L:List (List C)} (s:Seen lm L) {z:Nat} {x:List C} (hx:L[z]? = some x):Seen (Oc (z:Int) (x++[.bool false]) lm) L:=fun z' y e=>by
 rw[Br] at e
 by_cases q:((z':Int)=z)
 ·obtain rfl:z'=z:=by omega
  rw[if_pos rfl] at e
  cases e
  exact⟨x,hx,rfl⟩
 ·rw[if_neg q] at e
  exact s z' y e
def At (lc:G6) (L:List (List C)) (z:Nat) (x:List C):Prop:=Y6 (z:Int) lc=some x∨Y6 (z:Int) lc=none∧L[z]? = some x
def stG (n q:Nat) (kn:Bool):Stt:=⟨n+12,n+20,q,q+1,.snil,kn⟩
def Off (n q m:Nat):Prop:=m≠n+6∧m≠n+13∧m≠n+15∧m≠n+17∧m≠q+2
def Zp8 (lt:G6):Prop:=∀ z y,Y6 z lt=some y→y=[]
theorem Zp8.upd {lt:G6} (v:Zp8 lt) (z:Int):Zp8 (Oc z [] lt):=fun z' y e=>by
 rw[Br] at e
 split at e
 ·cases e; rfl
 ·exact v z' y e
theorem At.upd {lc:G6} {L:List (List C)} {z z2:Nat} {x y:List C} (h:At lc L z2 y) (ne:z2≠z):At (Oc (z:Int) x lc) L z2 y:=by
 unfold At at h ⊢
 rw[Br,if_neg (by omega)]
 exact h
theorem At.put (lc:G6) (L:List (List C)) (z:Nat) (x:List C):At (Oc (z:Int) x lc) L z x:=by
 unfold At
 rw[Br,if_pos rfl]
 exact .inl rfl
noncomputable def Zq6 (n q:Nat) (lt lc:G6) (h:Go.Ev.H):Go.Ev.H:=(((h.put (n+13) (.row 8 [stL (stG n q false)] false)).put (q+2) (.map (Jv lt))).put (n+15) (.map (Jv lc))).put (n+17) (.map [])
theorem Zkf {n q:Nat} {h:Go.Ev.H} (lt' lc':G6) {m:Nat} (o:m≠n+13∧m≠n+15∧m≠n+17∧m≠q+2):(Zq6 n q lt' lc' h).get m=h.get m:=by
 unfold Zq6
 rw[Zp o.2.2.1,Zp o.2.1,Zp o.2.2.2,Zp o.1]
end Go.Proofs.YtgikjeaipmeclaaGreatDoor
