/- super: descriptors as a block. -/
import Derived.Test.YtdkcjalmhdofcaaGreatDoorSup2
import Derived.KernelRfl
set_option linter.unusedSimpArgs false
set_option linter.unusedVariables false
set_option linter.unusedSectionVars false
set_option maxRecDepth 100000
set_option maxHeartbeats 10000000
namespace Go.Proofs.YtdkcjalmhdofcaaGreatDoor
open Go.Ev
theorem rs89:Tryz.f89.results.toList=[.cell 4 60,.tmp 5]:=rfl
attribute [go_sem] rs89
section
variable (Hh:Hearts K Tryz.prog)
include Hh
theorem Zq6 {a b c d n:Nat} {D:List Bc} {ro:Bool} (f:U4 a b c d=true) {h:Go.Ev.H} (hst:h.get 0=some Ul) (hn:h.get n=some (.row 3 (D.map O4) ro)) (hD:D.length=a) (ok:∀ d∈D,d.1≤b - 2 - c / 4∧d.2.1≤c∧d.2.2+d.2.1≤c) :
  Zg K Tryz.prog 89 [.g [.int .i64 (a:Int),.int .i64 (b:Int),.int .i64 (c:Int),.int .i64 (d:Int)],.c (.slice n 0 a 3)] h (.tup [.g (pgL (Bf (D9 D 0 Ow))),.c (.int .i64 0)]) h:=by
 obtain⟨g1,g2,g3,g4,g5,g6,g7,g8,g9,g10,g11⟩:=Yc f
 obtain⟨Z,hZ⟩:∃ Z,Ow=Z:=⟨_,rfl⟩
 have z0:=zPg
 have zl:=Zif
 rw[hZ] at z0 zl ⊢
 refine Zg.tidy ⟨Tryz.f89,Tryz.func89,by kernel_rfl,by decide⟩ fun tidy=>?_
 have l0:=tidy _ _ hst
 have l1:=tidy _ _ hn
 obtain⟨v,h',cc,rfl,hk⟩:∃ v h',Zg K Tryz.prog 89 [.g [.int .i64 (a:Int),.int .i64 (b:Int),.int .i64 (c:Int),.int .i64 (d:Int)],.c (.slice n 0 a 3)] h v h'∧v=.tup [.g (pgL (Bf (D9 D 0 Z))),.c (.int .i64 0)]∧∀ m,m<h.next→h'.get m=h.get m:=by
  rcases D with _|⟨⟨x0,y0,w0⟩,_|⟨⟨x1,y1,w1⟩,_|⟨⟨x2,y2,w2⟩,_|⟨⟨x3,y3,w3⟩,_|⟨r4,D⟩⟩⟩⟩⟩
  ·simp only[List.length_nil] at hD; omega
  rotate_right
  ·simp only[List.length_cons] at hD; omega
  all_goals
   simp only[List.length_cons,List.length_nil,Nat.reduceAdd] at hD
   subst hD
   simp only[List.map_cons,List.map_nil,O4] at hn
   have o0:=ok (x0,y0,w0) (by simp)
   try have o1:=ok (x1,y1,w1) (by simp)
   try have o2:=ok (x2,y2,w2) (by simp)
   try have o3:=ok (x3,y3,w3) (by simp)
   simp only at o0
   try simp only at o1
   try simp only at o2
   try simp only at o3
   refine Zg.Yb fits Hh (by kernel_rfl) (by kernel_rfl) (by kernel_rfl) (show Tryz.f89.body=some _ from rfl) rfl ?_
   repeat (first|apply Goes.seq|apply Goes.block|apply Goes.loop|apply Goes.skip|apply Goes.exit|apply Goes.ret|((first|apply Goes.Zo|apply Goes.ops2 fits Hh (Zj (Zj (Zj (Zj Zb (fun _ _ _ _=>U7 Hh)) (fun _ _ _ _=>Zgu Hh)) (fun _ _ _ _=>Zkb Hh)) (fun _ _ _ _=>Zsk Hh))); · simp (maxSteps:=9^6) +decide (disch:=first|omega|(simp only[lens,Zpn]<;>omega)|decide) only [go_sem,Za,simprocAttr,f,hst,hn,List.all_cons,List.all_nil,Bool.and_true,Bool.true_and,z0,zl,Zzi,Z3h,rd4,rd30,rd31,rd32,rd33,Z6,Zn,Yg,read1]<;>rfl))
   exact⟨_,_,(by simp (maxSteps:=9^6) +decide (disch:=first|omega|(simp only[lens,Zpn]<;>omega)|decide) only [go_sem,Za,simprocAttr,zl,Zzi]<;>rfl),(by simp only[Bf,D9,Nat.reduceAdd]),fun m hm=>by (first|(simp (discharger:=omega) only [H.get_put,H.Zf,H.Zk,H.Zc,H.Zh,H.Zi,if_neg]; done)|(simp only[H.get_put,H.Zf,H.Zk,H.Zc,H.Zh,H.Zi]; (repeat' split)<;>first|rfl|(exfalso; omega)|omega))⟩
 exact cc.quiet (by simp only[V.flat,W.flat,List.all_cons,Ru]; rfl) hk
end
end Go.Proofs.YtdkcjalmhdofcaaGreatDoor
set_option maxRecDepth 100000
set_option maxHeartbeats 10000000
namespace Go.Proofs.YtdkcjalmhdofcaaGreatDoor
open Go.Ev
theorem rs80:Tryz.f80.results.toList=[.tmp 4,.tmp 5]:=rfl
attribute [go_sem] rs80
section
variable (Hh:Hearts K Tryz.prog)
include Hh
theorem Zrs {a b c d:Nat} {ns:List Nat} (f:U4 a b c d=true) {h:Go.Ev.H} (hst:h.get 0=some Ul) (hl:ns.length=256) (s1:Yi ns 252=Sr ns) (s2:Gu ns (8 * a) (252 - 8 * a)=true) (s3:∀ k,k<a→Gu ns (8 * k+6) 2=true) (ok:∀ d∈Gp ns a 0,d.1≤b - 2 - c / 4∧d.2.1≤c∧d.2.2+d.2.1≤c) :
  Zg K Tryz.prog 80 [.g [.int .i64 (a:Int),.int .i64 (b:Int),.int .i64 (c:Int),.int .i64 (d:Int)],.g (pgL ns)] h (.tup [.c (.slice h.next 0 a 3),.c (.int .i64 0)]) (h.new (.row 3 ((Gp ns a 0).map O4) false)):=by
 obtain⟨g1,g2,g3,g4,g5,g6,g7,g8,g9,g10,g11⟩:=Yc f
 refine Zg.tidy ⟨Tryz.f80,Tryz.func80,by kernel_rfl,by decide⟩ fun tidy=>?_
 have l0:=tidy _ _ hst
 have t0:Gu ns 6 2=true:=s3 0 (by omega)
 have t1:1<a→Gu ns 14 2=true:=s3 1
 have t2:2<a→Gu ns 22 2=true:=s3 2
 have t3:3<a→Gu ns 30 2=true:=s3 3
 obtain⟨v,h',cc,n,rfl,n1,n2,n3,hk⟩:∃ v h',Zg K Tryz.prog 80 [.g [.int .i64 (a:Int),.int .i64 (b:Int),.int .i64 (c:Int),.int .i64 (d:Int)],.g (pgL ns)] h v h'∧∃ n,v=.tup [.c (.slice n 0 a 3),.c (.int .i64 0)]∧h.next≤n∧n<h'.next∧h'.get n=some (.row 3 ((Gp ns a 0).map O4) false)∧∀ m,m<h.next→h'.get m=h.get m:=by
  obtain rfl|rfl|rfl|rfl:a=1∨a=2∨a=3∨a=4:=by omega
  all_goals
   simp only[Gp,getD,List.forall_mem_cons,Nat.reduceAdd,Nat.reduceMul,Nat.reduceSub] at ok s2
   obtain⟨o0,ok⟩:=ok
   try obtain⟨o1,ok⟩:=ok
   try obtain⟨o2,ok⟩:=ok
   try obtain⟨o3,ok⟩:=ok
   refine Zg.Yb fits Hh (by kernel_rfl) (by kernel_rfl) (by kernel_rfl) (show Tryz.f80.body=some _ from rfl) rfl ?_
   repeat (first|apply Goes.seq|apply Goes.block|apply Goes.loop|apply Goes.skip|apply Goes.exit|apply Goes.ret|((first|apply Goes.Zo|apply Goes.ops2 fits Hh (Zj (Zj (Zj (Zj (Zj Zb (fun _ _ _ _=>U7 Hh)) (fun _ _ _ _=>Zlo Hh)) (fun _ _ _ _=>Ziu Hh)) (fun _ _ _ _=>Zl5 Hh)) (fun _ _ _ _=>Zgu Hh))); · simp (maxSteps:=9^6) +decide (disch:=first|omega|(simp only[lens,Zpn]<;>omega)|decide) only [go_sem,Za,simprocAttr,f,hst,hl,List.all_cons,List.all_nil,Bool.and_true,Bool.true_and,s1,s2,t0,t1,t2,t3,Zzi,Z3h,rd4,rd30,rd31,rd32,rd33,wr30,wr31,wr32,wr33,List.replicate_succ,List.replicate_zero,Z6,Zn,Yg,Jw,Jp,read1]<;>rfl))
   exact⟨_,_,(by simp (maxSteps:=9^6) +decide (disch:=first|omega|(simp only[lens,Zpn]<;>omega)|decide) only [go_sem,Za,simprocAttr,hl,Zzi]<;>rfl),_,rfl,(by first|omega|(simp only[H.Zc,H.Zh]<;>omega)),(by first|omega|(simp only[H.Zc,H.Zh]<;>omega)),by simp (maxSteps:=9^6) +decide (disch:=first|omega|(simp only[lens]<;>omega)|decide) only [go_sem,Za,simprocAttr,Gp,getD,O4,List.map_cons,List.map_nil]<;>rfl,fun m hm=>by (first|(simp (discharger:=omega) only [H.get_put,H.Zf,H.Zk,H.Zc,H.Zh,H.Zi,if_neg]; done)|(simp only[H.get_put,H.Zf,H.Zk,H.Zc,H.Zh,H.Zi]; (repeat' split)<;>first|rfl|(exfalso; omega)|omega))⟩
 exact Zg.row cc n1 n3 rfl (Zg3 _) n2 hk
end
end Go.Proofs.YtdkcjalmhdofcaaGreatDoor
set_option maxRecDepth 100000
namespace Go.Proofs.YtdkcjalmhdofcaaGreatDoor
open Go.Ev
def Zrl:List C→Option Bc
 | [.int .i64 x,.int .i64 y,.int .i64 z]=>(Jy x).bind fun x=>(Jy y).bind fun y=>(Jy z).bind fun z=>some (x,y,z)
 | _=>none
def Zvu:List (List C)→Option (List Bc)
 | []=>some []
 | r :: L=>(Zrl r).bind fun d=>(Zvu L).bind fun D=>some (d :: D)
theorem Ztr (d:Bc):Zrl (O4 d)=some d:=by simp only[Zrl,O4,Zdq,Option.bind_some]
theorem Zhd:∀ D:List Bc,Zvu (D.map O4)=some D
 | []=>rfl
 | d :: D=>by simp only[List.map_cons,Zvu,Ztr,Option.bind_some,Zhd D]
theorem Zq1 {r:List C} {d:Bc} (e:Zrl r=some d):r=O4 d:=by
 unfold Zrl at e
 split at e
 ·obtain⟨x,hx,e⟩:=Zq e
  obtain⟨y,hy,e⟩:=Zq e
  obtain⟨z,hz,e⟩:=Zq e
  cases e
  rw[Z8 hx,Z8 hy,Z8 hz]
  rfl
 ·cases e
theorem Zg4:∀ {L:List (List C)} {D:List Bc},Zvu L=some D→L=D.map O4
 | [],D,e=>by cases e; rfl
 | r :: L,D,e=>by
  obtain⟨d,hd,e⟩:=Zq (show (Zrl r).bind _=some D from e)
  obtain⟨D',hD,e⟩:=Zq e
  cases e
  rw[List.map_cons,←Zq1 hd,←Zg4 hD]
def Zf3 (dt ino:Nat) (d:Bc):Bool:=Nat.ble d.1 dt&&Nat.ble d.2.1 ino&&Nat.ble (d.2.2+d.2.1) ino
theorem Zbm {dt ino:Nat} {d:Bc} (e:Zf3 dt ino d=true):d.1≤dt∧d.2.1≤ino∧d.2.2+d.2.1≤ino:=by
 simp only[Zf3,Bool.and_eq_true] at e
 exact⟨Nat.le_of_ble_eq_true e.1.1,Nat.le_of_ble_eq_true e.1.2,Nat.le_of_ble_eq_true e.2⟩
noncomputable def Z0z:Kn1:=fun args h=>match args with
 | [.g [.int .i64 a,.int .i64 b,.int .i64 c,.int .i64 d],.c (.slice n 0 len 3)]=>Wq a b c d fun a b c _=>match h.get n with
  | some (.row s L _)=>(Zvu L).bind fun D=>Yt (Nat.beq s 3&&Nat.beq len a&&Nat.beq D.length a&&D.all (Zf3 (b - 2 - c / 4) c)&&Bl (h.get 0)) (some (.tup [.g (pgL (Bf (D9 D 0 Ow))),.c (.int .i64 0)],h))
  | _=>none
 | _=>none
def Fa (ns:List Nat):Nat→Nat→Bool
 | 0,_=>true
 | k+1,i=>Gu ns (i+6) 2&&Fa ns k (i+8)
theorem Zk8 {ns:List Nat}:∀ {a i:Nat},Fa ns a i=true→∀ k,k<a→Gu ns (8 * k+i+6) 2=true
 | 0,_,_,k,hk=>by omega
 | a+1,i,e,k,hk=>by
  have e':(Gu ns (i+6) 2&&Fa ns a (i+8))=true:=e
  rw[Bool.and_eq_true] at e'
  cases k with
  | zero=>rw[Nat.mul_zero,Nat.zero_add]; exact e'.1
  | succ k=>have:=Zk8 e'.2 k (by omega); rwa [show 8 * (k+1)+i+6=8 * k+(i+8)+6 by omega]
def goodD (ns:List Nat) (a b c:Nat):Bool:=Nat.beq (Yi ns 252) (Sr ns)&&Gu ns (8 * a) (252 - 8 * a)&&Fa ns a 0&&(Gp ns a 0).all (Zf3 (b - 2 - c / 4) c)
theorem La (ns:List Nat):∀ a i,Gp (ns.map (· % 256)) a i=Gp ns a i
 | 0,_=>rfl
 | a+1,i=>by simp only[Gp,getD,Tz,La ns a]
theorem Zgw (ns:List Nat):∀ a i,Fa (ns.map (· % 256)) a i=Fa ns a i
 | 0,_=>rfl
 | a+1,i=>by simp only[Fa,Ql,Zgw ns a]
theorem Np (ns:List Nat) (a b c:Nat):goodD (ns.map (· % 256)) a b c=goodD ns a b c:=by simp only[goodD,Vf,V6,Ql,Zgw,La]
noncomputable def Z0m:Kn1:=fun args h=>match args with
 | [.g [.int .i64 a,.int .i64 b,.int .i64 c,.int .i64 d],.g x]=>Wq a b c d fun a b c _=>Yt (Zkr x&&Nat.beq x.length 256&&goodD (unN x) a b c&&Bl (h.get 0)) (some (.tup [.c (.slice h.next 0 a 3),.c (.int .i64 0)],h.new (.row 3 ((Gp (unN x) a 0).map O4) false)))
 | _=>none
attribute [go_sem] Z0z Z0m Zhd La Np
section
variable (Hh:Hearts K Tryz.prog)
include Hh
theorem Zy7 {args:List W} {h h':Go.Ev.H} {v:V} (e:Z0z args h=some (v,h')):Zg K Tryz.prog 89 args h v h':=by
 unfold Z0z at e
 split at e
 ·obtain⟨a,b,c,d,rfl,rfl,rfl,rfl,f,e⟩:=Gf e
  split at e
  ·rename_i s L ro heq
   obtain⟨D,hD,e⟩:=Zq e
   obtain⟨q,e⟩:=Zv.1 e
   cases e
   simp only[Bool.and_eq_true] at q
   obtain⟨⟨⟨⟨q1,q2⟩,q3⟩,q4⟩,q5⟩:=q
   obtain rfl:=Nat.eq_of_beq_eq_true q1
   obtain rfl:=Nat.eq_of_beq_eq_true q2
   rw[Zg4 hD] at heq
   exact Zq6 Hh f (Bp q5) heq (Nat.eq_of_beq_eq_true q3) fun d hd=>Zbm (List.all_eq_true.1 q4 d hd)
  ·cases e
 ·cases e
theorem Zx1 {args:List W} {h h':Go.Ev.H} {v:V} (e:Z0m args h=some (v,h')):Zg K Tryz.prog 80 args h v h':=by
 unfold Z0m at e
 split at e
 ·obtain⟨a,b,c,d,rfl,rfl,rfl,rfl,f,e⟩:=Gf e
  obtain⟨q,e⟩:=Zv.1 e
  cases e
  simp only[Bool.and_eq_true] at q
  obtain⟨⟨⟨q1,q2⟩,q3⟩,q5⟩:=q
  obtain⟨ns,rfl,hl⟩:=Zc4 q1
  have q2:=Nat.eq_of_beq_eq_true q2
  rw[q2] at hl
  rw[Om,Np] at q3
  rw[Om,La]
  simp only[goodD,Bool.and_eq_true] at q3
  obtain⟨⟨⟨r1,r2⟩,r3⟩,r4⟩:=q3
  exact Zrs Hh f (Bp q5) hl (Nat.eq_of_beq_eq_true r1) r2 (fun k hk=>by have:=Zk8 r3 k hk; rwa [Nat.add_zero] at this) fun d hd=>Zbm (List.all_eq_true.1 r4 d hd)
 ·cases e
end
end Go.Proofs.YtdkcjalmhdofcaaGreatDoor
set_option maxRecDepth 100000
namespace Go.Proofs.YtdkcjalmhdofcaaGreatDoor
open Go.Ev
theorem Zfs:∀ (D:List Bc) (i:Nat) (x:List Nat),(D9 D i x).length=x.length
 | [],_,_=>rfl
 | d :: D,i,x=>by rw[D9,Zfs D,Zi5]
def w2 (v:Nat):Nat:=v % 256+256 * (v / 256 % 256)
theorem Zuu {v:Nat} (h:v<65536):w2 v=v:=by unfold w2; omega
theorem at_set {ns:List Nat} {i v:Nat} (h:i<ns.length):atN (ns.set i v) i=v % 256:=by
 unfold atN
 rw[List.getD_eq_getElem?_getD,List.getElem?_set_self h]
 rfl
theorem Xv {ns:List Nat} {i j v:Nat} (h:i≠j):atN (ns.set i v) j=atN ns j:=by
 unfold atN
 rw[List.getD_eq_getElem?_getD,List.getD_eq_getElem?_getD,List.getElem?_set_ne h]
theorem Zv0 {ns:List Nat} {i v:Nat} (h:i+4≤ns.length) (hv:v<4294967296):Yi (Jg ns i v) i=v:=by
 unfold Yi Jg
 have h0:atN ((((ns.set i v).set (i+1) (v / 256)).set (i+2) (v / 256 / 256)).set (i+3) (v / 256 / 256 / 256)) i=v % 256:=by
  rw[Xv (by omega),Xv (by omega),Xv (by omega),at_set (by omega)]
 have h1:atN ((((ns.set i v).set (i+1) (v / 256)).set (i+2) (v / 256 / 256)).set (i+3) (v / 256 / 256 / 256)) (i+1)=v / 256 % 256:=by
  rw[Xv (by omega),Xv (by omega),at_set (by rw[List.length_set]; omega)]
 have h2:atN ((((ns.set i v).set (i+1) (v / 256)).set (i+2) (v / 256 / 256)).set (i+3) (v / 256 / 256 / 256)) (i+2)=v / 256 / 256 % 256:=by
  rw[Xv (by omega),at_set (by rw[List.length_set,List.length_set]; omega)]
 have h3:atN ((((ns.set i v).set (i+1) (v / 256)).set (i+2) (v / 256 / 256)).set (i+3) (v / 256 / 256 / 256)) (i+3)=v / 256 / 256 / 256 % 256:=by
  rw[at_set (by rw[List.length_set,List.length_set,List.length_set]; omega)]
 rw[h0,h1,h2,h3]
 omega
theorem take_set {ns:List Nat} {i v k:Nat} (h:k≤i):(ns.set i v).take k=ns.take k:=by
 refine List.ext_getElem? fun j=>?_
 rw[List.getElem?_take,List.getElem?_take]
 split
 ·rw[List.getElem?_set_ne (by omega)]
 ·rfl
theorem Zwe (ns:List Nat):Sr (Bf ns)=Sr ns:=by
 have:(Bf ns).take 252=ns.take 252:=by
  unfold Bf Jg
  rw[take_set (by omega),take_set (by omega),take_set (by omega),take_set (by omega)]
 unfold Sr
 rw[this]
theorem Zk4 (ns:List Nat) {i n:Nat} (h:i+n≤252):Gu (Bf ns) i n=Gu ns i n:=by
 have:((Bf ns).drop i).take n=(ns.drop i).take n:=by
  rw[List.take_drop,List.take_drop]
  congr 1
  unfold Bf Jg
  rw[take_set (by omega),take_set (by omega),take_set (by omega),take_set (by omega)]
 unfold Gu
 rw[this]
theorem Zph (ns:List Nat) {i:Nat} (h:i<252):atN (Bf ns) i=atN ns i:=by
 unfold Bf Jg
 rw[Xv (by omega),Xv (by omega),Xv (by omega),Xv (by omega)]
theorem Zbp (ns:List Nat) {i:Nat} (h:i<250):J4 (Bf ns) i=J4 ns i:=by
 unfold J4
 rw[Zph _ (by omega),Zph _ (by omega)]
theorem Za9 (ns:List Nat):∀ (a i:Nat),i+8 * a≤240→Gp (Bf ns) a i=Gp ns a i
 | 0,_,_=>rfl
 | a+1,i,h=>by
  rw[Gp,Gp,Za9 ns a (i+8) (by omega)]
  unfold getD
  rw[Zbp _ (by omega),Zbp _ (by omega),Zbp _ (by omega)]
theorem Zgn (ns:List Nat):∀ (a i:Nat),i+8 * a≤240→Fa (Bf ns) a i=Fa ns a i
 | 0,_,_=>rfl
 | a+1,i,h=>by rw[Fa,Fa,Zgn ns a (i+8) (by omega),Zk4 _ (by omega)]
def wD (d:Bc):Bc:=(w2 d.1,w2 d.2.1,w2 d.2.2)
theorem Z2z {d:Bc} (h:d.1<65536∧d.2.1<65536∧d.2.2<65536):wD d=d:=by
 unfold wD
 rw[Zuu h.1,Zuu h.2.1,Zuu h.2.2]
theorem tell1 (q x y:Nat):Gp (D9 [(q,x,y)] 0 Ow) 1 0=[wD (q,x,y)]∧Fa (D9 [(q,x,y)] 0 Ow) 1 0=true∧Gu (D9 [(q,x,y)] 0 Ow) 8 244=true:=⟨by kernel_rfl,by kernel_rfl,by kernel_rfl⟩
theorem tell2 (q x y q1 x1 y1:Nat):Gp (D9 [(q,x,y),(q1,x1,y1)] 0 Ow) 2 0=[wD (q,x,y),wD (q1,x1,y1)]∧Fa (D9 [(q,x,y),(q1,x1,y1)] 0 Ow) 2 0=true∧Gu (D9 [(q,x,y),(q1,x1,y1)] 0 Ow) 16 236=true:=⟨by kernel_rfl,by kernel_rfl,by kernel_rfl⟩
theorem tell3 (q x y q1 x1 y1 q2 x2 y2:Nat):Gp (D9 [(q,x,y),(q1,x1,y1),(q2,x2,y2)] 0 Ow) 3 0=[wD (q,x,y),wD (q1,x1,y1),wD (q2,x2,y2)]∧Fa (D9 [(q,x,y),(q1,x1,y1),(q2,x2,y2)] 0 Ow) 3 0=true∧Gu (D9 [(q,x,y),(q1,x1,y1),(q2,x2,y2)] 0 Ow) 24 228=true:=⟨by kernel_rfl,by kernel_rfl,by kernel_rfl⟩
theorem tell4 (q x y q1 x1 y1 q2 x2 y2 q3 x3 y3:Nat):Gp (D9 [(q,x,y),(q1,x1,y1),(q2,x2,y2),(q3,x3,y3)] 0 Ow) 4 0=[wD (q,x,y),wD (q1,x1,y1),wD (q2,x2,y2),wD (q3,x3,y3)]∧Fa (D9 [(q,x,y),(q1,x1,y1),(q2,x2,y2),(q3,x3,y3)] 0 Ow) 4 0=true∧Gu (D9 [(q,x,y),(q1,x1,y1),(q2,x2,y2),(q3,x3,y3)] 0 Ow) 32 220=true:=⟨by kernel_rfl,by kernel_rfl,by kernel_rfl⟩
def Zq9 (D:List Bc):List C:=pgL (Bf (D9 D 0 Ow))
theorem Zv8 {a m x:Nat} {D:List Bc} (a1:1≤a) (a4:a≤4) (Dl:D.length=a) (Dm:D.all (Zf3 m x)=true) (mm:m<65536) (xx:x<65536):Gp (D9 D 0 Ow) a 0=D∧Fa (D9 D 0 Ow) a 0=true∧Gu (D9 D 0 Ow) (8 * a) (252 - 8 * a)=true:=by
 have b:∀ d∈D,wD d=d:=fun d hd=>by
  obtain⟨h1,h2,h3⟩:=Zbm (List.all_eq_true.1 Dm d hd)
  exact Z2z ⟨by omega,by omega,by omega⟩
 match D,Dl with
 | [],Dl=>simp at Dl; omega
 | [(q,u,v)],Dl =>
  obtain rfl:a=1:=by simpa using Dl.symm
  have:=tell1 q u v
  rw[b _ (by simp)] at this
  exact this
 | [(q,u,v),(q1,u1,v1)],Dl =>
  obtain rfl:a=2:=by simpa using Dl.symm
  have:=tell2 q u v q1 u1 v1
  rw[b _ (by simp),b (q1,u1,v1) (by simp)] at this
  exact this
 | [(q,u,v),(q1,u1,v1),(q2,u2,v2)],Dl =>
  obtain rfl:a=3:=by simpa using Dl.symm
  have:=tell3 q u v q1 u1 v1 q2 u2 v2
  rw[b _ (by simp),b (q1,u1,v1) (by simp),b (q2,u2,v2) (by simp)] at this
  exact this
 | [(q,u,v),(q1,u1,v1),(q2,u2,v2),(q3,u3,v3)],Dl =>
  obtain rfl:a=4:=by simpa using Dl.symm
  have:=tell4 q u v q1 u1 v1 q2 u2 v2 q3 u3 v3
  rw[b _ (by simp),b (q1,u1,v1) (by simp),b (q2,u2,v2) (by simp),b (q3,u3,v3) (by simp)] at this
  exact this
 | _ :: _ :: _ :: _ :: _ :: _,Dl=>simp only[List.length_cons] at Dl; omega
theorem Zr4 {a b c d:Nat} (f:U4 a b c d=true) {D:List Bc} (Dl:D.length=a) (Dm:D.all (Zf3 (b - 2 - c / 4) c)=true):Zkr (Zq9 D)=true∧goodD (unN (Zq9 D)) a b c=true∧Gp (unN (Zq9 D)) a 0=D:=by
 obtain⟨g1,g2,g3,g4,g5,g6,g7,g8,g9,g10,g11⟩:=Yc f
 obtain⟨t1,t2,t3⟩:=Zv8 g1 g2 Dl Dm (by omega) (by omega)
 refine⟨Zik _,?_,?_⟩
 ·unfold Zq9
  rw[Om,Np]
  have q1:Yi (Bf (D9 D 0 Ow)) 252=Sr (Bf (D9 D 0 Ow)):=by
   rw[Zwe]
   exact Zv0 (by rw[Zfs,Zif]; omega) (Zut _)
  unfold goodD
  rw[q1,Nat.beq_refl,Zk4 _ (by omega),t3,Zgn _ _ _ (by omega),t2,Za9 _ _ _ (by omega),t1,Dm]
  rfl
 ·unfold Zq9
  rw[Om,La,Za9 _ _ _ (by omega)]
  exact t1
end Go.Proofs.YtdkcjalmhdofcaaGreatDoor
