/- geo of a geometry that may be, as the walks ask it: data, groups' starts, inodes. -/
import Derived.Test.YtecakmodlkbnaaaGreatDoorNew2
import Derived.Test.YtecakmodlkbnaaaGreatDoorSto4
import Derived.Test.YtecakmodlkbnaaaGreatDoorTxn2
import Derived.Test.YtecakmodlkbnaaaGreatDoorEvC
set_option linter.unusedSimpArgs false
set_option linter.unusedVariables false
set_option linter.unusedSectionVars false
set_option maxRecDepth 100000
set_option maxHeartbeats 4000000
namespace Go.Proofs.YtecakmodlkbnaaaGreatDoor
open Go.Ev
noncomputable def Zax (a b c d:Int) (k:Nat→Nat→Nat→Nat→Option (V × Go.Ev.H)):Option (V × Go.Ev.H):=(Uf a).bind fun a=>(Uf b).bind fun b=>(Uf c).bind fun c=>(Uf d).bind fun d=>Y8 (Ym a b c d) (k a b c d)
theorem Oh {a b c d:Int} {k:Nat→Nat→Nat→Nat→Option (V × Go.Ev.H)} {r:V × Go.Ev.H} (e:Zax a b c d k=some r):∃ a' b' c' d':Nat,a=a'∧b=b'∧c=c'∧d=d'∧Ym a' b' c' d'=true∧k a' b' c' d'=some r:=by
 obtain⟨a',ha,e⟩:=Zo e
 obtain⟨b',hb,e⟩:=Zo e
 obtain⟨c',hc,e⟩:=Zo e
 obtain⟨d',hd,e⟩:=Zo e
 obtain⟨f,e⟩:=Zu.1 e
 exact⟨a',b',c',d',Z9 ha,Z9 hb,Z9 hc,Z9 hd,f,e⟩
noncomputable def Zr0:Kn1:=fun args h=>match args with
 | [.g [.int .i64 a,.int .i64 b,.int .i64 c,.int .i64 d]]=>Zax a b c d fun _ b c _=>some (.w (.c (.int .i64 ((b - 2 - c / 4:Nat):Int))),h)
 | _=>none
noncomputable def Zl3:Kn1:=fun args h=>match args with
 | [.g [.int .i64 a,.int .i64 b,.int .i64 c,.int .i64 d],.c (.int .i64 k)]=>Zax a b c d fun a b _ d=>(Uf k).bind fun k=>Y8 (decide (k<a)) (some (.tup [.c (.int .i64 ((2+d+k * b:Nat):Int)),.c (.bool true)],h))
 | _=>none
noncomputable def Zgk:Kn1:=fun args h=>match args with
 | [.g [.int .i64 a,.int .i64 b,.int .i64 c,.int .i64 d]]=>Zax a b c d fun a _ c _=>some (.w (.c (.int .i64 ((a * c:Nat):Int))),h)
 | _=>none
noncomputable def Zhe:Kn1:=fun args h=>match args with
 | [.g [.int .i64 a,.int .i64 b,.int .i64 c,.int .i64 d],.c (.int .i64 k),.c (.int .i64 i)]=>Zax a b c d fun a _ c _=>(Uf k).bind fun k=>(Uf i).bind fun i=>Y8 (decide (k<a)&&decide (i<c)) (some (.w (.c (.int .i64 ((k * c+i+1:Nat):Int))),h))
 | _=>none
noncomputable def Zrk:Kn1:=fun args h=>match args with
 | [.g [.int .i64 a,.int .i64 b,.int .i64 c,.int .i64 d],.c (.int .i64 z)]=>Zax a b c d fun a _ c _=>bif decide (1≤z)&&decide (z≤((a * c:Nat):Int)) then some (.tup [.c (.int .i64 (((z.toNat - 1) / c:Nat):Int)),.c (.int .i64 (((z.toNat - 1) % c:Nat):Int)),.c (.bool true)],h) else some (.tup [.c (.int .i64 0),.c (.int .i64 0),.c (.bool false)],h)
 | _=>none
noncomputable def Znz:Kn1:=fun args h=>match args with
 | [.g [.int .i64 a,.int .i64 b,.int .i64 c,.int .i64 d],.c (.int .i64 z)]=>Zax a b c d fun a b c d=>bif decide (1≤z)&&decide (z≤((a * c:Nat):Int)) then some (.tup [.c (.int .i64 ((2+d+(z.toNat - 1) / c * b+2+(z.toNat - 1) % c / 4:Nat):Int)),.c (.int .i64 (((z.toNat - 1) % c % 4 * 64:Nat):Int)),.c (.bool true)],h) else some (.tup [.c (.int .i64 0),.c (.int .i64 0),.c (.bool false)],h)
 | _=>none
attribute [go_sem] Zax Zr0 Zl3 Zgk Zhe Zrk Znz
section
variable (Hh:Hearts K Tryz.prog)
include Hh
theorem Zei {args:List W} {h h':Go.Ev.H} {v:V} (e:Zr0 args h=some (v,h')):Zg 117 args h v h':=by
 unfold Zr0 at e
 split at e
 ·obtain⟨a,b,c,d,rfl,rfl,rfl,rfl,f,e⟩:=Oh e
  obtain⟨g1,g2,g3,g4,g5,g6,g7,g8,g9,g10,g11⟩:=Zv f
  cases e
  have q1:Mk .i64 (c:Int) 4=some (.int .i64 ((c / 4:Nat):Int)):=Ea (b:=4) (by omega) (by omega)
  have e2:(b:Int) - 2=((b - 2:Nat):Int):=by omega
  have e3:((b - 2:Nat):Int) - ((c / 4:Nat):Int)=((b - 2 - c / 4:Nat):Int):=by omega
  refine Gt rfl ?_
  refine Yg Hh Tryz.f117 ?_
  have Jf:=Uq @f @q1 @e2 @e3
  repeat (first|apply Zk|apply Zw|apply Z0|refine Goes.Zi J5 ?_|refine Zq Hh (EY Za (Uy Hh)) J5 ?_)
  exact⟨_,_,Zc,rfl,fun m hm=>by exact Yc⟩
 ·cases e
theorem Dy {args:List W} {h h':Go.Ev.H} {v:V} (e:Zl3 args h=some (v,h')):Zg 62 args h v h':=by
 unfold Zl3 at e
 split at e
 ·obtain⟨a,b,c,d,rfl,rfl,rfl,rfl,f,e⟩:=Oh e
  obtain⟨g1,g2,g3,g4,g5,g6,g7,g8,g9,g10,g11⟩:=Zv f
  obtain⟨k,hk,e⟩:=Zo e
  obtain⟨bk,e⟩:=Zu.1 e
  have kl:=of_decide_eq_true bk
  cases e
  rw[Z9 hk]
  have b1:k * b≤a * b:=Nat.mul_le_mul (by omega) (by omega)
  have gi:(k:Int) * (b:Int)=((k * b:Nat):Int):=rfl
  refine Gt rfl ?_
  refine Yg Hh Tryz.f62 ?_
  have Jf:=Yy @f @gi
  repeat (first|apply Zk|apply Zw|apply Z0|refine Goes.Zi J5 ?_|refine Zq Hh (EY Za (Uy Hh)) J5 ?_)
  exact⟨_,_,Zc,rfl,fun m hm=>by exact Yc⟩
 ·cases e
theorem G7 {args:List W} {h h':Go.Ev.H} {v:V} (e:Zgk args h=some (v,h')):Zg 84 args h v h':=by
 unfold Zgk at e
 split at e
 ·obtain⟨a,b,c,d,rfl,rfl,rfl,rfl,f,e⟩:=Oh e
  obtain⟨g1,g2,g3,g4,g5,g6,g7,g8,g9,g10,g11⟩:=Zv f
  cases e
  have b1:a * c≤4 * 64:=Nat.mul_le_mul (by omega) (by omega)
  have gi:(a:Int) * (c:Int)=((a * c:Nat):Int):=rfl
  refine Gt rfl ?_
  refine Yg Hh Tryz.f84 ?_
  have Jf:=Yy @f @gi
  repeat (first|apply Zk|apply Zw|apply Z0|refine Goes.Zi J5 ?_|refine Zq Hh (EY Za (Uy Hh)) J5 ?_)
  exact⟨_,_,Zc,rfl,fun m hm=>by exact Yc⟩
 ·cases e
theorem Zqs {args:List W} {h h':Go.Ev.H} {v:V} (e:Zhe args h=some (v,h')):Zg 49 args h v h':=by
 unfold Zhe at e
 split at e
 ·obtain⟨a,b,c,d,rfl,rfl,rfl,rfl,f,e⟩:=Oh e
  obtain⟨g1,g2,g3,g4,g5,g6,g7,g8,g9,g10,g11⟩:=Zv f
  obtain⟨k,hk,e⟩:=Zo e
  obtain⟨i,hi,e⟩:=Zo e
  obtain⟨bk,e⟩:=Zu.1 e
  simp only[Bool.and_eq_true,decide_eq_true_eq] at bk
  obtain⟨kl,il⟩:=bk
  cases e
  rw[Z9 hk,Z9 hi]
  have b1:k * c≤4 * 64:=Nat.mul_le_mul (by omega) (by omega)
  have gi:(k:Int) * (c:Int)=((k * c:Nat):Int):=rfl
  refine Gt rfl ?_
  refine Yg Hh Tryz.f49 ?_
  have Jf:=Yy @f @gi
  repeat (first|apply Zk|apply Zw|apply Z0|refine Goes.Zi J5 ?_|refine Zq Hh (EY Za (Uy Hh)) J5 ?_)
  exact⟨_,_,Zc,rfl,fun m hm=>by exact Yc⟩
 ·cases e
theorem D5 {args:List W} {h h':Go.Ev.H} {v:V} (e:Zrk args h=some (v,h')):Zg 31 args h v h':=by
 unfold Zrk at e
 split at e
 ·rename_i z
  obtain⟨a,b,c,d,rfl,rfl,rfl,rfl,f,e⟩:=Oh e
  obtain⟨g1,g2,g3,g4,g5,g6,g7,g8,g9,g10,g11⟩:=Zv f
  have b1:a * c≤4 * 64:=Nat.mul_le_mul (by omega) (by omega)
  by_cases z1:1≤z
  ·by_cases z2:z≤((a * c:Nat):Int)
   ·rw[decide_eq_true z1,decide_eq_true z2] at e
    cases e
    obtain⟨j,hj⟩:∃ j,z.toNat - 1=j:=⟨_,rfl⟩
    obtain rfl:z=((j+1:Nat):Int):=by omega
    rw[hj]
    have e1:((j+1:Nat):Int) - 1=(j:Int):=by omega
    refine Gt rfl ?_
    refine Yg Hh Tryz.f31 ?_
    have Jf:=Uq @f @e1 @Ea @Em
    repeat (first|apply Zk|apply Zw|apply Z0|refine Goes.Zi J5 ?_|refine Zq Hh (EY Za (G7 Hh)) J5 ?_|refine Ed Hh (EY Za (G7 Hh)) Zci ?_)
    exact⟨_,_,Zc,rfl,fun m hm=>by exact Yc⟩
   ·rw[decide_eq_true z1,decide_eq_false z2] at e
    cases e
    refine Gt rfl ?_
    refine Yg Hh Tryz.f31 ?_
    have Jf:=@f
    repeat (first|apply Zk|apply Zw|apply Z0|refine Goes.Zi J5 ?_|refine Zq Hh (EY Za (G7 Hh)) J5 ?_|refine Ed Hh (EY Za (G7 Hh)) Zci ?_)
    exact⟨_,_,Zc,rfl,fun m hm=>by exact Yc⟩
  ·rw[decide_eq_false z1] at e
   cases e
   refine Gt rfl ?_
   refine Yg Hh Tryz.f31 ?_
   have Jf:=@f
   repeat (first|apply Zk|apply Zw|apply Z0|refine Goes.Zi J5 ?_|refine Zq Hh (EY Za (G7 Hh)) J5 ?_|refine Ed Hh (EY Za (G7 Hh)) Zci ?_)
   exact⟨_,_,Zc,rfl,fun m hm=>by exact Yc⟩
 ·cases e
theorem Et {args:List W} {h h':Go.Ev.H} {v:V} (e:Znz args h=some (v,h')):Zg 39 args h v h':=by
 unfold Znz at e
 split at e
 ·rename_i z
  obtain⟨a,b,c,d,rfl,rfl,rfl,rfl,f,e⟩:=Oh e
  obtain⟨g1,g2,g3,g4,g5,g6,g7,g8,g9,g10,g11⟩:=Zv f
  have b0:a * c≤4 * 64:=Nat.mul_le_mul (by omega) (by omega)
  rcases bz:decide (1≤z)&&decide (z≤((a * c:Nat):Int)) with _|_
  ·rw[bz] at e
   cases e
   refine Gt rfl ?_
   refine Yg Hh Tryz.f39 ?_
   have Jf:=Yy @f @bz
   repeat (first|apply Zk|apply Zw|apply Z0|refine Goes.Zi J5 ?_|refine Zq Hh (EY (EY Za (D5 Hh)) (Dy Hh)) J5 ?_)
   exact⟨_,_,Zc,rfl,fun m hm=>by exact Yc⟩
  rw[bz] at e
  simp only[Bool.and_eq_true,decide_eq_true_eq] at bz
  obtain⟨z1,z2⟩:=bz
  cases e
  obtain⟨j,hj⟩:∃ j,z.toNat - 1=j:=⟨_,rfl⟩
  obtain rfl:z=((j+1:Nat):Int):=by omega
  rw[hj]
  have hk0:j / c<a:=Nat.div_lt_of_lt_mul (by rw[Nat.mul_comm]; omega)
  have hm:j % c<c:=Nat.mod_lt _ (by omega)
  have b1:j / c * b≤a * b:=Nat.mul_le_mul (by omega) (by omega)
  have hz:(((j+1:Nat):Int).toNat - 1)=j:=hj
  obtain⟨k,hk⟩:∃ k,j / c=k:=⟨_,rfl⟩
  obtain⟨r,hr⟩:∃ r,j % c=r:=⟨_,rfl⟩
  rw[hk] at hk0 b1
  rw[hr] at hm
  rw[hk,hr]
  have d1:decide (1≤((j+1:Nat):Int))=true:=decide_eq_true z1
  have d2:decide (((j+1:Nat):Int)≤((a * c:Nat):Int))=true:=decide_eq_true z2
  obtain⟨q,hq⟩:∃ q,k * b=q:=⟨_,rfl⟩
  rw[hq] at b1 ⊢
  refine Gt rfl ?_
  refine Yg Hh Tryz.f39 ?_
  have Jf:=Yu @f @d1 @d2 @hz @hk @hr @hq @Ea @Em
  repeat (first|apply Zk|apply Zw|apply Z0|refine Goes.Zi J5 ?_|refine Zq Hh (EY (EY Za (D5 Hh)) (Dy Hh)) J5 ?_)
  exact⟨_,_,Zc,rfl,fun m hm=>by exact Yc⟩
 ·cases e
end
theorem rs32:Tryz.f32.results.toList=[.cell 2 23]:=rfl
theorem rs81:Tryz.f81.results.toList=[.tmp 2]:=rfl
theorem rs82:Tryz.f82.results.toList=[.tmp 2]:=rfl
theorem rs38:Tryz.f38.results.toList=[.tmp 2]:=rfl
theorem rs44:Tryz.f44.results.toList=[.tmp 2]:=rfl
theorem rs47:Tryz.f47.results.toList=[.tmp 4]:=rfl
theorem rs46:Tryz.f46.results.toList=[.tmp 4]:=rfl
attribute [go_sem] rs32 rs81 rs82 rs38 rs44 rs47 rs46
noncomputable def Zyu:Kn1:=fun args h=>match args with
 | [.c (.ptr s 0)]=>(Br h s).bind fun S=>(Fx h S.gd).bind fun G=>some (.w (.g (Jk G.gr G.sz G.ino G.jr)),h)
 | _=>none
noncomputable def Ztw:Kn1:=fun args h=>match args with
 | [.c (.ptr s 0)]=>(Br h s).bind fun _=>some (.w (.c (.bool false)),h)
 | _=>none
noncomputable def Z3o:Kn1:=fun args h=>match args with
 | [.c (.ptr s 0)]=>(Br h s).bind fun S=>(Gn h S.tx).bind fun X=>some (.w (.c (.bool X.op)),h)
 | _=>none
noncomputable def Zs9:Kn1:=fun args h=>match args with
 | [.c (.ptr s 0)]=>(Br h s).bind fun S=>(Fx h S.gd).bind fun _=>some (.w (.c (.int .i64 0)),h)
 | _=>none
noncomputable def Zq7:Kn1:=fun args h=>match args with
 | [.c (.ptr s 0)]=>(Br h s).bind fun S=>(Fx h S.gd).bind fun _=>(Gn h S.tx).bind fun X=>Y8 X.op (some (.w (.c (.int .i64 0)),h))
 | _=>none
noncomputable def Zh8:Kn1:=fun args h=>match args with
 | [.g [.int .i64 a,.int .i64 b,.int .i64 c,.int .i64 d],.c (.int .i64 k)]=>Zax a b c d fun a b _ d=>(Uf k).bind fun k=>Y8 (decide (k<a)) (some (.w (.c (.int .i64 ((2+d+k * b+1:Nat):Int))),h))
 | _=>none
noncomputable def Zmp:Kn1:=fun args h=>match args with
 | [.g [a,b,c,d],.c z]=>some (.w (.c (.fn 105 [] [some (h.next,0),some (h.next+1,0)])),(h.new (.row 4 [[a,b,c,d]] false)).new (.row 1 [[z]] false))
 | _=>none
attribute [go_sem] Zyu Ztw Z3o Zs9 Zq7 Zh8 Zmp
section
variable (Hh:Hearts K Tryz.prog)
include Hh
theorem Jh {args:List W} {h h':Go.Ev.H} {v:V} (e:Zyu args h=some (v,h')):Zg 32 args h v h':=by
 unfold Zyu at e
 split at e
 ·rename_i s
  obtain⟨S,hs,e⟩:=Zo e
  have hs:=Jc hs
  obtain⟨G,hg,e⟩:=Zo e
  obtain⟨hg,fb⟩:=J4 hg
  cases e
  refine Zy.tidy ⟨Tryz.f32,Tryz.func32,by kernel_rfl,by decide⟩ fun tidy=>?_
  have l1:=tidy _ _ hs
  have l2:=tidy _ _ hg
  have gl4:Zn 9 [gdL G] 0 4=some (Jk G.gr G.sz G.ino G.jr):=rfl
  have gl5:∀ x:List C,x.length≤4∧4≤x.length→Z4 4 [x] 0 (Jk G.gr G.sz G.ino G.jr)=some [Jk G.gr G.sz G.ino G.jr]:=fun x hx=>Su ⟨Nat.le_refl 4,Nat.le_refl 4,hx.1,hx.2,by omega⟩
  have gl6:Zn 4 [Jk G.gr G.sz G.ino G.jr] 0 4=some (Jk G.gr G.sz G.ino G.jr):=rfl
  obtain⟨v,h',c,rfl,hk⟩:∃ v h',Zg 32 [.c (.ptr s 0)] h v h'∧v=.w (.g (Jk G.gr G.sz G.ino G.jr))∧∀ m,m<h.next→h'.get m=h.get m:=by
   refine Yg Hh Tryz.f32 ?_
   have Jf:=U1 @hs @hg @gl4 @gl5 @gl6
   repeat (first|apply Zk|apply Zw|apply Z0|refine Goes.Zi Uo ?_|refine Zq Hh (EY Za (Ox Hh)) Uo ?_)
   exact⟨_,_,(by have Jf:=@gl6; exact Z5),rfl,fun m hm=>by exact Yc⟩
  exact c.quiet rfl hk
 ·cases e
theorem Q0 {args:List W} {h h':Go.Ev.H} {v:V} (e:Ztw args h=some (v,h')):Zg 81 args h v h':=by
 unfold Ztw at e
 split at e
 ·rename_i s
  obtain⟨S,hs,e⟩:=Zo e
  have hs:=Jc hs
  cases e
  refine fnG Hh Tryz.f81 ?_
  have Jf:=@hs
  repeat (first|apply Zk|apply Z0|refine Zq Hh (EY Za (Ox Hh)) Yq ?_)
  exact Zc
 ·cases e
theorem Zco {args:List W} {h h':Go.Ev.H} {v:V} (e:Z3o args h=some (v,h')):Zg 82 args h v h':=by
 unfold Z3o at e
 split at e
 ·rename_i s
  obtain⟨S,hs,e⟩:=Zo e
  have hs:=Jc hs
  obtain⟨X,ht,e⟩:=Zo e
  have ht:=Y4 ht
  cases e
  refine fnG Hh Tryz.f82 ?_
  have Jf:=Yy @hs @ht
  repeat (first|apply Zk|apply Z0|refine Zq Hh (EY (EY Za (Ox Hh)) (Zen Hh)) Yq ?_)
  exact Zc
 ·cases e
theorem Zej {args:List W} {h h':Go.Ev.H} {v:V} (e:Zs9 args h=some (v,h')):Zg 38 args h v h':=by
 unfold Zs9 at e
 split at e
 ·rename_i s
  obtain⟨S,hs,e⟩:=Zo e
  have hs:=Jc hs
  obtain⟨G,hg,e⟩:=Zo e
  obtain⟨hg,fb⟩:=J4 hg
  cases e
  refine fnG Hh Tryz.f38 ?_
  repeat (first|apply Zk|apply Zw|apply Z0|((first|apply Goes.Zi|apply Goes.ops2 fits Hh (EY (EY Za (Jh Hh)) (Uy Hh))); · simp (maxSteps:=9^6) +decide (disch:=first|omega|(simp only[lens]<;>omega)|decide) only [go_sem,Zn,Zm,simprocAttr,hs,hg,gdL,fb,Jk]<;>rfl))
  exact Zc
 ·cases e
theorem Zko {args:List W} {h h':Go.Ev.H} {v:V} (e:Zq7 args h=some (v,h')):Zg 44 args h v h':=by
 unfold Zq7 at e
 split at e
 ·rename_i s
  obtain⟨S,hs,e⟩:=Zo e
  have hs:=Jc hs
  obtain⟨G,hg,e⟩:=Zo e
  obtain⟨hg,fb⟩:=J4 hg
  obtain⟨X,ht,e⟩:=Zo e
  have ht:=Y4 ht
  obtain⟨bo,e⟩:=Zu.1 e
  cases e
  refine fnG Hh Tryz.f44 ?_
  repeat (first|apply Zk|apply Yt|apply Zw|apply Z0|((first|apply Goes.Zi|apply Goes.ops2 fits Hh (EY (EY (EY Za (Zej Hh)) (Q0 Hh)) (Zco Hh))); · simp (maxSteps:=9^6) +decide (disch:=first|omega|(simp only[lens]<;>omega)|decide) only [go_sem,Zn,Zm,simprocAttr,hs,ht,hg,gdL,fb,bo]<;>rfl))
  exact Zc
 ·cases e
theorem Te {args:List W} {h h':Go.Ev.H} {v:V} (e:Zh8 args h=some (v,h')):Zg 47 args h v h':=by
 unfold Zh8 at e
 split at e
 ·obtain⟨a,b,c,d,rfl,rfl,rfl,rfl,f,e⟩:=Oh e
  obtain⟨g1,g2,g3,g4,g5,g6,g7,g8,g9,g10,g11⟩:=Zv f
  obtain⟨k,hk,e⟩:=Zo e
  obtain⟨bk,e⟩:=Zu.1 e
  have kl:=of_decide_eq_true bk
  cases e
  rw[Z9 hk]
  have b1:k * b≤a * b:=Nat.mul_le_mul (by omega) (by omega)
  obtain⟨q,hq⟩:∃ q,k * b=q:=⟨_,rfl⟩
  have e1:((2+d+q:Nat):Int)+1=((2+d+q+1:Nat):Int):=rfl
  rw[hq] at b1 ⊢
  refine Gt rfl ?_
  refine Yg Hh Tryz.f47 ?_
  have Jf:=Jb @f @hq @e1
  repeat (first|apply Zk|apply Z0|refine Zq Hh (EY Za (Dy Hh)) J5 ?_)
  exact⟨_,_,Zc,rfl,fun m hm=>by exact Yc⟩
 ·cases e
theorem Zso {args:List W} {h h':Go.Ev.H} {v:V} (e:Zmp args h=some (v,h')):Zg 46 args h v h':=by
 unfold Zmp at e
 split at e
 ·cases e
  refine fnG Hh Tryz.f46 ?_
  repeat (first|apply Zk|apply Z0|refine Zq Hh Za Rw ?_)
  exact Zc
 ·cases e
end
theorem Dx {a b c e z:Nat} (F:Fine a b c e) (h1:2+e≤z) (h2:z<2+e+a * b):Bp a b c e (z:Int)=true:=by
 obtain⟨g1,g2,g3,g4,g5,g6,g7,g8,g9,g10,g11⟩:=F
 unfold Bp
 rw[decide_eq_true (by omega),Int.toNat_natCast]
 unfold U7
 rw[if_neg (by omega),if_neg (by omega),if_neg (by omega),if_neg (by omega)]
 split
 ·rfl
 ·split
  ·rfl
  ·split<;>rfl
theorem Vt (a b c e:Nat):Bp a b c e ((1:Nat):Int)=true:=by
 unfold Bp
 rw[decide_eq_true (by omega),Int.toNat_natCast]
 unfold U7
 rw[if_neg (by omega),if_pos (by omega)]
 rfl
def Seen (lm:Dg) (L:List (List C)):Prop:=∀ (z:Nat) (y:List C),Jt (z:Int) lm=some y→∃ x,L[z]? = some x∧y=x++[.bool false]
theorem Z0n (L:List (List C)):Seen [] L:=fun _ _ e=>by cases e
theorem Seen.upd {lm:Dg} {L:List (List C)} (s:Seen lm L) {z:Nat} {x:List C} (hx:L[z]? = some x):Seen (Dw (z:Int) (x++[.bool false]) lm) L:=fun z' y e=>by
 rw[Rc] at e
 by_cases q:((z':Int)=z)
 ·obtain rfl:z'=z:=by omega
  rw[if_pos rfl] at e
  cases e
  exact⟨x,hx,rfl⟩
 ·rw[if_neg q] at e
  exact s z' y e
def At (lc:Dg) (L:List (List C)) (z:Nat) (x:List C):Prop:=Jt (z:Int) lc=some x∨Jt (z:Int) lc=none∧L[z]? = some x
def stG (n q:Nat) (kn:Bool):Stt:=⟨n+12,n+20,q,q+1,.snil,kn⟩
def Off (n q m:Nat):Prop:=m≠n+6∧m≠n+13∧m≠n+15∧m≠n+17∧m≠q+2
def Zvq (lt:Dg):Prop:=∀ z y,Jt z lt=some y→y=[]
theorem Zvq.upd {lt:Dg} (v:Zvq lt) (z:Int):Zvq (Dw z [] lt):=fun z' y e=>by
 rw[Rc] at e
 split at e
 ·cases e; rfl
 ·exact v z' y e
theorem At.upd {lc:Dg} {L:List (List C)} {z z2:Nat} {x y:List C} (h:At lc L z2 y) (ne:z2≠z):At (Dw (z:Int) x lc) L z2 y:=by
 unfold At at h ⊢
 rw[Rc,if_neg (by omega)]
 exact h
theorem At.put (lc:Dg) (L:List (List C)) (z:Nat) (x:List C):At (Dw (z:Int) x lc) L z x:=by
 unfold At
 rw[Rc,if_pos rfl]
 exact .inl rfl
noncomputable def Zxm (n q:Nat) (lt lc:Dg) (h:Go.Ev.H):Go.Ev.H:=(((h.put (n+13) (.row 8 [stL (stG n q false)] false)).put (q+2) (.map (Oe lt))).put (n+15) (.map (Oe lc))).put (n+17) (.map [])
theorem Zof {n q:Nat} {h:Go.Ev.H} (lt' lc':Dg) {m:Nat} (o:m≠n+13∧m≠n+15∧m≠n+17∧m≠q+2):(Zxm n q lt' lc' h).get m=h.get m:=by
 unfold Zxm
 rw[Ze o.2.2.1,Ze o.2.1,Ze o.2.2.2,Ze o.1]
end Go.Proofs.YtecakmodlkbnaaaGreatDoor
set_option maxRecDepth 100000
namespace Go.Proofs.YtecakmodlkbnaaaGreatDoor
open Go.Ev
noncomputable def q93 (p:List Nat):Code:=piece p (Uh Tryz.f93)
theorem Z1x:q93 [1,0,1,2]=.loop (q93 [1,0,1,2,2]):=by kernel_rfl
noncomputable def q197 (p:List Nat):Code:=piece p (Uh Tryz.f197)
theorem Ztk:q197 [1,1,0,1,2]=.loop (q197 [1,1,0,1,2,2]):=by kernel_rfl
theorem Zdo:q197 [1,1,0,1,2,2,1,1,0,2,1,1]=.block 2 (q197 [1,1,0,1,2,2,1,1,0,2,1,1,2]):=by kernel_rfl
theorem Zbo:q197 [1,1,0,1,2,2,1,1,0,2,1,1,2]=.loop (q197 [1,1,0,1,2,2,1,1,0,2,1,1,2,2]):=by kernel_rfl
def Zla:List Nat:=[0,498536548,997073096,651767980,1994146192,1802195444,1303535960,1342533948,3988292384,4027552580,3604390888,3412177804,2607071920,2262029012,2685067896,3183342108]
def Zc6 (j:Nat):Nat:=Zla.getD j 0
def Gf:O:=.row 16 [Zla.map fun (n:Nat)=>.int .u32 (n:Int)] true
def half (v:Nat):Nat:=Nat.xor (v / 16) (Zc6 (Nat.land v 15))
def Z3a (v b:Nat):Nat:=half (half (Nat.xor v b))
def Zw4:List Nat→Nat→Nat
 | [],v=>v
 | b :: l,v=>Zw4 l (Z3a v b)
def Zoc:List (List Nat)→Nat→Nat
 | [],v=>v
 | l :: ps,v=>Zoc ps (Zw4 l v)
theorem Zg1 (j:Nat):Zc6 j<4294967296:=by
 unfold Zc6 Zla
 by_cases h:j<16
 ·have:∀ j:Fin 16,([0,498536548,997073096,651767980,1994146192,1802195444,1303535960,1342533948,3988292384,4027552580,3604390888,3412177804,2607071920,2262029012,2685067896,3183342108]:List Nat).getD j.1 0<4294967296:=by decide
  exact this ⟨j,h⟩
 ·rw[List.getD_eq_getElem?_getD,List.getElem?_eq_none (by show 16≤j; omega)]
  decide
theorem Zk2 (j:Nat) (h:j<16):read1 16 [Zla.map fun (n:Nat)=>C.int .u32 (n:Int)] j=some (.int .u32 (Zc6 j:Nat)):=by
 unfold read1
 rw[Nat.div_eq_of_lt h,Nat.mod_eq_of_lt h,List.getElem?_cons_zero]
 show (Zla.map fun (n:Nat)=>C.int .u32 (n:Int))[j]? = _
 rw[List.getElem?_map,Zc6]
 have:j<Zla.length:=h
 rw[List.getD_eq_getElem?_getD,List.getElem?_eq_getElem this]
 rfl
theorem Znc {v:Nat} (h:v<4294967296):half v<4294967296:=Zm5 (by omega) (Zg1 _)
theorem Zum {v b:Nat} (h:v<4294967296) (hb:b<256):Z3a v b<4294967296:=Znc (Znc (Zm5 h (by omega)))
theorem Zl5:∀ {l:List Nat} {v:Nat},v<4294967296→(∀ b∈l,b<256)→Zw4 l v<4294967296
 | [],_,h,_=>h
 | b :: l,v,h,hb=>Zl5 (l:=l) (v:=Z3a v b) (Zum h (hb b (by simp))) fun c hc=>hb c (by simp [hc])
theorem glob0 (ts:Zx):Gw K ts (.global 1)=some (.w (.c (.ptr 0 0))):=by
 show Zu3 K 1=_
 kernel_rfl
theorem shr4 {v:Nat}:Zu6 .u32 (v:Int) 4=some (.int .u32 ((v / 16:Nat):Int)):=by
 show some (C.int .u32 ((v:Int).fdiv 16))=_
 rw[show (v:Int).fdiv 16=((v / 16:Nat):Int) by rw[Int.fdiv_eq_ediv_of_nonneg _ (by omega)]; rfl]
theorem and15 {v:Nat} (hv:v<4294967296):Dc .u32 Nat.land (v:Int) 15=.int .u32 (Nat.land v 15:Nat):=Zsc (b:=15) hv (by omega) (Nat.lt_of_le_of_lt (Nat.and_le_right) (by omega))
theorem land15 (v:Nat):Nat.land v 15<16:=Nat.lt_of_le_of_lt (Nat.and_le_right) (by omega)
section
variable (Hh:Hearts K Tryz.prog)
include Hh
theorem Yad (h:Go.Ev.H) (n off len:Nat) (o:O) (ho:h.get n=some o) (hst:h.get 0=some Gf) (hlen:len<4294967296):∀ (l:List Nat) (i v:Nat) (ts:Zx),i+l.length=len→(∀ j (b:Nat),l[j]? = some b→b<256∧Zm ti5 (off+(i+j)) (some o)=some (.c (.int .u8 (b:Int))))→v<4294967296→Zh ts 14=.w (.c (.slice n off len 1))→Zh ts 15=.w (.c (.int .i64 len))→Zh ts 3=.w (.c (.int .u32 v))→Zh ts 16=.w (.c (.int .i64 i)) →
  Ye 42 none (q197 [1,1,0,1,2,2,1,1,0,2,1,1,2]) [] ts h fun x ds' ts' h'=>x=.exit 2∧ds'=[]∧h'=h∧Zh ts' 3=.w (.c (.int .u32 (Zw4 l v)))∧Zh ts' 8=Zh ts 8∧Zh ts' 9=Zh ts 9∧Zh ts' 10=Zh ts 10:=by
 intro l
 induction l with
 | nil =>
  intro i v ts hi hl hv h14 h15 h3 h16
  have d1:decide ((i:Int)<(len:Int))=false:=decide_eq_false (by simp at hi; omega)
  iterate 6 (first|apply Zk|apply Ux|apply Je|((first|apply Goes.Zi|apply Goes.ops2 fits Hh Za); · simp (decide:=true) only [go_sem,Yw,H.get_put,H.Z7,Zm,Jo,reduceIte,Nat.reduceAdd,Nat.reduceMul,Z6,Y2,asC,Zf,Uz,J7,h15,h16,d1]<;>rfl))
  refine⟨rfl,rfl,rfl,?_,?_,?_,?_⟩<;>simp (decide:=true) only [Zf,reduceIte,h3,Zw4]
 | cons b l ih =>
  intro i v ts hi hl hv h14 h15 h3 h16
  simp only[List.length_cons] at hi
  have d1:decide ((i:Int)<(len:Int))=true:=decide_eq_true (by omega)
  have w1:Jr .i64 ((i:Int)+1)=.int .i64 ((i+1:Nat):Int):=by rw[wrap64 (by omega) (by omega)]; congr 1
  have b1:Nat.blt i len=true:=Vm (by omega)
  obtain⟨hb,ld⟩:=hl 0 b rfl
  rw[Nat.add_zero] at ld
  have w2:Jr .u32 (b:Int)=.int .u32 (b:Int):=Zuq (by omega)
  have x1:=Zmw hv (show b<4294967296 by omega)
  obtain⟨u,hu⟩:∃ u,Nat.xor v b=u:=⟨_,rfl⟩
  have hu':u<4294967296:=hu ▸ Zm5 hv (by omega)
  rw[hu] at x1
  have s1:=@shr4 u
  have a1:=and15 hu'
  have b2:Nat.blt (Nat.land u 15) 16=true:=Vm (land15 u)
  have st1:Zm ti36 (Nat.land u 15) (some Gf)=some (.c (.int .u32 (Zc6 (Nat.land u 15):Nat))):=by
   rw[Gf,Zm,Yb8,cond_false,Zk2 _ (land15 u)]
   rfl
  have x2:Dc .u32 Nat.xor ((u / 16:Nat):Int) ((Zc6 (Nat.land u 15):Nat):Int)=.int .u32 (half u:Nat):=Zmw (by omega) (Zg1 _)
  obtain⟨t,ht⟩:∃ t,half u=t:=⟨_,rfl⟩
  have ht':t<4294967296:=ht ▸ Znc hu'
  rw[ht] at x2
  have s2:=@shr4 t
  have a2:=and15 ht'
  have b3:Nat.blt (Nat.land t 15) 16=true:=Vm (land15 t)
  have st2:Zm ti36 (Nat.land t 15) (some Gf)=some (.c (.int .u32 (Zc6 (Nat.land t 15):Nat))):=by
   rw[Gf,Zm,Yb8,cond_false,Zk2 _ (land15 t)]
   rfl
  have x3:Dc .u32 Nat.xor ((t / 16:Nat):Int) ((Zc6 (Nat.land t 15):Nat):Int)=.int .u32 (Z3a v b:Nat):=by
   rw[Z3a,hu,ht]
   exact Zmw (by omega) (Zg1 _)
  iterate 16 (first|apply Zk|apply Zw|apply Yt|apply Je|((first|apply Goes.Zi|apply Goes.ops2 fits Hh Za); · simp (decide:=true) only [go_sem,Yw,H.get_put,H.Z7,Jo,reduceIte,Nat.reduceAdd,Nat.reduceMul,Z6,Y2,asC,Zf,Uz,J7,h14,h15,h3,h16,d1,w1,w2,b1,ho,ld,x1,s1,a1,b2,hst,st1,x2,s2,a2,b3,st2,x3,Qz,Zrb,Yat,Zr6,Yci,Z0t,Ycq,Z6y,Z96,glob0,Nat.beq_refl,Nat.mul_one,Nat.zero_add]<;>rfl))
  show Ye 42 none (.loop (q197 [1,1,0,1,2,2,1,1,0,2,1,1,2,2])) _ _ _ _
  rw[←Zbo]
  refine (ih (i+1) _ _ (by omega) (fun j c hc=>?_) (Zum hv hb) ?_ ?_ ?_ ?_).mono ?_
  ·have:=hl (j+1) c (by simpa using hc)
   rwa [show i+(j+1)=i+1+j by omega] at this
  ·simp (decide:=true) only [Zf,reduceIte,h14]
  ·simp (decide:=true) only [Zf,reduceIte,h15]
  ·simp (decide:=true) only [Zf,reduceIte]
  ·simp (decide:=true) only [Zf,reduceIte]
  ·rintro x ds' ts' h' ⟨e1,e2,e3,e4,e5,e6,e7⟩
   refine⟨e1,e2,e3,e4,?_,?_,?_⟩
   ·rw[e5]; simp (decide:=true) only [Zf,reduceIte]
   ·rw[e6]; simp (decide:=true) only [Zf,reduceIte]
   ·rw[e7]; simp (decide:=true) only [Zf,reduceIte]
def Holds (h:Go.Ev.H) (c:C) (l:List Nat):Prop:=∃ n off o,c=.slice n off l.length 1∧h.get n=some o∧l.length<4294967296∧∀ j (b:Nat),l[j]? = some b→b<256∧Zm ti5 (off+j) (some o)=some (.c (.int .u8 (b:Int)))
omit Hh in
theorem Holds.lt {h:Go.Ev.H} {c:C} {l:List Nat} (H:Holds h c l):∀ b∈l,b<256:=fun b hb=>by
 obtain⟨_,_,_,_,_,_,hl⟩:=H
 obtain⟨j,hj⟩:=List.getElem?_of_mem hb
 exact (hl j b hj).1
theorem Z7v (h:Go.Ev.H) (n m:Nat) (cs:List C) (ro:Bool) (ho:h.get n=some (.row 1 (cs.map fun c=>[c]) ro)) (hst:h.get 0=some Gf) (hm:cs.length=m) (hm':m<4294967296):∀ (ps:List (List Nat)) (i v:Nat) (ts:Zx),i+ps.length=m→(∀ (j:Nat) (l:List Nat),ps[j]? = some l→∃ c,cs[i+j]? = some c∧Holds h c l)→v<4294967296→Zh ts 8=.w (.c (.slice n 0 m 1))→Zh ts 9=.w (.c (.int .i64 m))→Zh ts 3=.w (.c (.int .u32 v))→Zh ts 10=.w (.c (.int .i64 i)) →
  Ye 42 none (q197 [1,1,0,1,2]) [] ts h fun x ds' ts' h'=>x=.exit 0∧ds'=[]∧h'=h∧Zh ts' 3=.w (.c (.int .u32 (Zoc ps v)))∧Zoc ps v<4294967296:=by
 intro ps
 induction ps with
 | nil =>
  intro i v ts hi hl hv h8 h9 h3 h10
  have d1:decide ((i:Int)<(m:Int))=false:=decide_eq_false (by simp at hi; omega)
  iterate 6 (first|apply Zk|apply Ux|apply Je|((first|apply Goes.Zi|apply Goes.ops2 fits Hh Za); · simp (decide:=true) only [go_sem,Yw,H.get_put,H.Z7,Zm,Jo,reduceIte,Nat.reduceAdd,Nat.reduceMul,Z6,Y2,asC,Zf,Uz,J7,h9,h10,d1]<;>rfl))
  refine⟨rfl,rfl,rfl,?_,hv⟩
  simp (decide:=true) only [Zf,reduceIte,h3,Zoc]
 | cons l ps ih =>
  intro i v ts hi hl hv h8 h9 h3 h10
  simp only[List.length_cons] at hi
  have d1:decide ((i:Int)<(m:Int))=true:=decide_eq_true (by omega)
  have b1:Nat.blt i m=true:=Vm (by omega)
  obtain⟨c,hc,hold⟩:=hl 0 l rfl
  have hlt:=hold.lt
  obtain⟨a,off,o,rfl,hao,hll,hby⟩:=hold
  rw[Nat.add_zero] at hc
  have rd:read1 1 (cs.map fun c=>[c]) i=some (.slice a off l.length 1):=by
   unfold read1
   rw[Nat.div_one,Nat.mod_one,List.getElem?_map,hc]
   rfl
  have fl:Y7 K 172 (.c (.slice a off l.length 1))=true:=by unfold Y7; rw[Qz]; rfl
  iterate 12 (first|apply Zk|apply Zw|apply Yt|apply Je|((first|apply Goes.Zi|apply Goes.ops2 fits Hh Za); · simp (decide:=true) only [go_sem,Yw,H.get_put,H.Z7,Zm,Jo,reduceIte,Nat.reduceAdd,Nat.reduceMul,Z6,Y2,asC,Zf,Uz,J7,h8,h9,h3,h10,d1,b1,ho,rd,fl,Zos,Z68,Qz,Z7w,Z78,Zr,J3,cW,Nat.beq_refl,Nat.mul_one,Nat.zero_add]<;>rfl))
  show Ye 42 none (q197 [1,1,0,1,2,2,1,1,0,2,1,1]) _ _ _ _
  rw[Zdo]
  refine Yt ((Yad Hh h a off l.length o hao hst hll l 0 v _ (by omega) ?_ hv ?_ ?_ ?_ ?_).mono ?_)
  ·intro j b hb
   rw[Nat.zero_add]
   exact hby j b hb
  ·simp (decide:=true) only [Zf,reduceIte]
  ·simp (decide:=true) only [Zf,reduceIte]
  ·simp (decide:=true) only [Zf,reduceIte,h3]
  ·simp (decide:=true) only [Zf,reduceIte]<;>rfl
  rintro x ds' ts' h' ⟨rfl,rfl,rfl,e3,e8,e9,e10⟩
  have f8:Zh ts' 8=.w (.c (.slice n 0 m 1)):=by rw[e8]; simp (decide:=true) only [Zf,reduceIte,h8]
  have f9:Zh ts' 9=.w (.c (.int .i64 m)):=by rw[e9]; simp (decide:=true) only [Zf,reduceIte,h9]
  have f10:Zh ts' 10=.w (.c (.int .i64 i)):=by rw[e10]; simp (decide:=true) only [Zf,reduceIte,h10]
  have w1:Jr .i64 ((i:Int)+1)=.int .i64 ((i+1:Nat):Int):=by rw[wrap64 (by omega) (by omega)]; congr 1
  (apply Goes.ops2 fits Hh Za; · simp (decide:=true) only [go_sem,Yw,H.get_put,H.Z7,Zm,Jo,reduceIte,Nat.reduceAdd,Nat.reduceMul,f10,w1]<;>rfl)
  show Ye 42 none (.loop (q197 [1,1,0,1,2,2])) _ _ _ _
  rw[←Ztk]
  refine ih (i+1) _ _ (by omega) (fun j l' hj=>?_) (Zl5 hv hlt) ?_ ?_ ?_ ?_
  ·have:=hl (j+1) l' (by simpa using hj)
   rwa [show i+(j+1)=i+1+j by omega] at this
  ·simp (decide:=true) only [Zf,reduceIte,f8]
  ·simp (decide:=true) only [Zf,reduceIte,f9]
  ·simp (decide:=true) only [Zf,reduceIte,e3]
  ·simp (decide:=true) only [Zf,reduceIte]
theorem Z7r (h:Go.Ev.H) (n:Nat) (cs:List C) (ro:Bool) (ps:List (List Nat)) (ho:h.get n=some (.row 1 (cs.map fun c=>[c]) ro)) (hst:h.get 0=some Gf) (hm:cs.length=ps.length) (hm':ps.length<4294967296) (hl:∀ (j:Nat) (l:List Nat),ps[j]? = some l→∃ c,cs[j]? = some c∧Holds h c l) :
  Zg 197 [.c (.slice n 0 ps.length 1)] h (.w (.c (.int .u32 (Nat.xor 4294967295 (Zoc ps 4294967295):Nat)))) h:=by
 have e0:Zh (Om 0 [.c (.slice n 0 ps.length 1)] .nil) 0=.w (.c (.slice n 0 ps.length 1)):=by rw[Oj]; rfl
 refine Zy.goes fits Hh (by kernel_rfl) (by kernel_rfl) (by kernel_rfl) (show Tryz.f197.body=some (q197 []) by kernel_rfl) rfl ?_
 have e1:Tryz.f197.results.toList=[.tmp 2]:=rfl
 have fl:Y7 K 326 (.c (.slice n 0 ps.length 1))=true:=by unfold Y7; rw[Zos]; rfl
 show Ye 42 none _ _ _ _ _
 iterate 8 (first|apply Zk|apply Yt|(apply Goes.ops2 fits Hh Za; · simp (decide:=true) only [go_sem,Yw,H.get_put,H.Z7,Zm,Jo,reduceIte,Nat.reduceAdd,Nat.reduceMul,e0,fl,Zr,J3]<;>rfl))
 show Ye 42 none (q197 [1,1,0,1,2]) _ _ _ _
 refine (Z7v Hh h n ps.length cs ro ho hst hm hm' ps 0 4294967295 _ (by omega) ?_ (by omega) ?_ ?_ ?_ ?_).mono ?_
 ·intro j l hj
  rw[Nat.zero_add]
  exact hl j l hj
 ·simp (decide:=true) only [Zf,reduceIte]
 ·simp (decide:=true) only [Zf,reduceIte]
 ·simp (decide:=true) only [Zf,reduceIte]<;>rfl
 ·simp (decide:=true) only [Zf,reduceIte]<;>rfl
 rintro x ds' ts' h' ⟨rfl,rfl,rfl,e3,hlt⟩
 have x1:Dc .u32 Nat.xor IntKind.u32.max (Zoc ps 4294967295:Nat)=.int .u32 (Nat.xor 4294967295 (Zoc ps 4294967295):Nat):=Zmw (a:=4294967295) (by omega) hlt
 iterate 3 (first|apply Zk|apply Z0|(apply Goes.ops2 fits Hh Za; · simp (decide:=true) only [go_sem,Yw,H.get_put,H.Z7,Zm,Jo,reduceIte,Nat.reduceAdd,Nat.reduceMul,e3,x1]<;>rfl))
 simp (decide:=true) only [N9,U2,finish,e1,Uv,evalW,Y2,asW,Zf,reduceIte,Be]
def Ze5:List Nat→Bool
 | []=>true
 | b :: l=>bif Nat.beq b 0 then Ze5 l else false
theorem zero0 (h:Go.Ev.H) (n off len:Nat) (o:O) (ho:h.get n=some o) (hlen:len<4294967296):∀ (l:List Nat) (i:Nat) (ts:Zx),i+l.length=len→(∀ j (b:Nat),l[j]? = some b→b<256∧Zm ti5 (off+(i+j)) (some o)=some (.c (.int .u8 (b:Int))))→Zh ts 5=.w (.c (.slice n off len 1))→Zh ts 6=.w (.c (.int .i64 len))→Zh ts 7=.w (.c (.int .i64 i)) →
  Ye 14 none (q93 [1,0,1,2]) [] ts h fun x ds' ts' h'=>ds'=[]∧h'=h∧(Ze5 l=true∧x=.exit 0∨Ze5 l=false∧x=.ret∧Zh ts' 2=.w (.c (.bool false))):=by
 intro l
 induction l with
 | nil =>
  intro i ts hi hl h5 h6 h7
  have d1:decide ((i:Int)<(len:Int))=false:=decide_eq_false (by simp at hi; omega)
  iterate 6 (first|apply Zk|apply Ux|apply Je|((first|apply Goes.Zi|apply Goes.ops2 fits Hh Za); · simp (decide:=true) only [go_sem,Yw,H.get_put,H.Z7,Zm,Jo,reduceIte,Nat.reduceAdd,Nat.reduceMul,Z6,Y2,asC,Zf,Uz,J7,h6,h7,d1]<;>rfl))
  exact⟨rfl,rfl,.inl ⟨rfl,rfl⟩⟩
 | cons b l ih =>
  intro i ts hi hl h5 h6 h7
  simp only[List.length_cons] at hi
  have d1:decide ((i:Int)<(len:Int))=true:=decide_eq_true (by omega)
  have w1:Jr .i64 ((i:Int)+1)=.int .i64 ((i+1:Nat):Int):=by rw[wrap64 (by omega) (by omega)]; congr 1
  have b1:Nat.blt i len=true:=Vm (by omega)
  obtain⟨hb,ld⟩:=hl 0 b rfl
  rw[Nat.add_zero] at ld
  by_cases b0:b=0
  ·subst b0
   have z:(((0:Nat):Int) != 0)=false:=rfl
   iterate 15 (first|apply Zk|apply Zw|apply Yt|apply Je|((first|apply Goes.Zi|apply Goes.ops2 fits Hh Za); · simp (decide:=true) only [go_sem,Yw,H.get_put,H.Z7,Jo,reduceIte,Nat.reduceAdd,Nat.reduceMul,Z6,Y2,asC,Zf,Uz,J7,h5,h6,h7,d1,w1,b1,ho,ld,z,Qz,Zrb,Zr6,Z0t,Nat.beq_refl,Nat.mul_one]<;>rfl))
   show Ye 14 none (.loop (q93 [1,0,1,2,2])) _ _ _ _
   rw[←Z1x]
   refine ih (i+1) _ (by omega) (fun j c hc=>?_) ?_ ?_ ?_
   ·have:=hl (j+1) c (by simpa using hc)
    rwa [show i+(j+1)=i+1+j by omega] at this
   ·simp (decide:=true) only [Zf,reduceIte,h5]
   ·simp (decide:=true) only [Zf,reduceIte,h6]
   ·simp (decide:=true) only [Zf,reduceIte]
  ·have z:((b:Int) != 0)=true:=by simpa using b0
   iterate 16 (first|apply Zk|apply Zw|apply Yt|apply Z0|apply Je|((first|apply Goes.Zi|apply Goes.ops2 fits Hh Za); · simp (decide:=true) only [go_sem,Yw,H.get_put,H.Z7,Jo,reduceIte,Nat.reduceAdd,Nat.reduceMul,Z6,Y2,asC,Zf,Uz,J7,h5,h6,h7,d1,w1,b1,ho,ld,z,Qz,Zrb,Zr6,Z0t,Nat.beq_refl,Nat.mul_one]<;>rfl))
   refine⟨rfl,rfl,.inr ⟨?_,rfl,?_⟩⟩
   ·have:Nat.beq b 0=false:=by
     cases e:Nat.beq b 0 with
     | false=>rfl
     | true=>exact absurd (Nat.eq_of_beq_eq_true e) b0
    simp only[Ze5,this,cond_false]
   ·simp (decide:=true) only [Zf,reduceIte]
theorem Z13 (h:Go.Ev.H) (c:C) (l:List Nat) (hold:Holds h c l):Zg 93 [.c c] h (.w (.c (.bool (Ze5 l)))) h:=by
 obtain⟨n,off,o,rfl,ho,hlen,hl⟩:=hold
 have e0:Zh (Om 0 [.c (.slice n off l.length 1)] .nil) 0=.w (.c (.slice n off l.length 1)):=by rw[Oj]; rfl
 refine Zy.goes fits Hh (by kernel_rfl) (by kernel_rfl) (by kernel_rfl) (show Tryz.f93.body=some (q93 []) by kernel_rfl) rfl ?_
 have e1:Tryz.f93.results.toList=[.tmp 2]:=rfl
 have fl:Y7 K 172 (.c (.slice n off l.length 1))=true:=by unfold Y7; rw[Qz]; rfl
 show Ye 14 none _ _ _ _ _
 iterate 6 (first|apply Zk|apply Yt|(apply Goes.ops2 fits Hh Za; · simp (decide:=true) only [go_sem,Yw,H.get_put,H.Z7,Zm,Jo,reduceIte,Nat.reduceAdd,Nat.reduceMul,e0,fl,Zr,J3]<;>rfl))
 show Ye 14 none (q93 [1,0,1,2]) _ _ _ _
 refine (zero0 Hh h n off l.length o ho hlen l 0 _ (by omega) ?_ ?_ ?_ ?_).mono ?_
 ·intro j b hb
  rw[Nat.zero_add]
  exact hl j b hb
 ·simp (decide:=true) only [Zf,reduceIte]
 ·simp (decide:=true) only [Zf,reduceIte]
 ·simp (decide:=true) only [Zf,reduceIte]<;>rfl
 rintro x ds' ts' h' ⟨rfl,rfl,⟨hz,rfl⟩|⟨hz,rfl,h2⟩⟩
 ·rw[hz]
  iterate 3 (first|apply Zk|apply Z0|(apply Goes.ops2 fits Hh Za; · simp (decide:=true) only [go_sem,Yw,H.get_put,H.Z7,Zm,Jo,reduceIte,Nat.reduceAdd,Nat.reduceMul]<;>rfl))
  simp (decide:=true) only [N9,U2,finish,e1,Uv,evalW,Y2,asW,Zf,reduceIte,Be]
 ·rw[hz]
  show leave K Tryz.f93 (some (.at .ret [] ts' h'))=_
  simp (decide:=true) only [N9,U2,finish,e1,Uv,evalW,Y2,asW,h2,Be]
end
def Zvy (off len:Nat):Option O→Option (List Nat)
 | some (.row sz els _)=>bif Nat.ble (off % sz+len) sz&&Nat.blt len 4294967296 then (match Zn sz els off len with
  | some l=>Ot l
  | none=>none) else none
 | _=>none
noncomputable def Zfv (h:Go.Ev.H):C→Option (List Nat)
 | .slice n off len 1=>Zvy off len (h.get n)
 | _=>none
theorem Za3 {h:Go.Ev.H} {c:C} {l:List Nat} (e:Zfv h c=some l):Holds h c l:=by
 unfold Zfv at e
 split at e
 ·rename_i n off len
  unfold Zvy at e
  split at e
  ·rename_i sz els ro ho
   cases hb:(Nat.ble (off % sz+len) sz&&Nat.blt len 4294967296) with
   | false=>rw[hb] at e; cases e
   | true =>
    rw[hb] at e
    simp only[Bool.and_eq_true] at hb
    simp only[cond_true] at e
    split at e
    ·rename_i cs hl
     obtain⟨l1,l2⟩:=Zjw hl (Nat.le_of_ble_eq_true hb.1)
     obtain⟨n1,n2⟩:=Zin e
     have hlen:l.length=len:=by omega
     refine⟨n,off,_,by rw[hlen],ho,by rw[hlen]; simpa [Nat.blt_eq] using hb.2,fun j b hj=>?_⟩
     obtain⟨m1,m2⟩:=n2 j b hj
     refine⟨m1,?_⟩
     have hjl:j<len:=by
      rcases Nat.lt_or_ge j l.length with h1|h1
      ·omega
      ·rw[List.getElem?_eq_none h1] at hj; cases hj
     rw[Zm,Z7d,cond_false,l2 j hjl,m2]
     rfl
    ·cases e
  ·cases e
 ·cases e
def Ve:List (List C)→Option (List C)
 | []=>some []
 | [c] :: l=>match Ve l with
  | some r=>some (c :: r)
  | none=>none
 | _=>none
theorem Ze6:∀ {l:List (List C)} {r:List C},Ve l=some r→l=r.map fun c=>[c]
 | [],r,h=>by cases h; rfl
 | [c] :: l,r,h=>by
  simp only[Ve] at h
  split at h
  ·rename_i r' hr
   cases h
   rw[List.map_cons,←Ze6 hr]
  ·cases h
 | [] :: _,_,h=>by simp [Ve] at h
 | (_ :: _ :: _) :: _,_,h=>by simp [Ve] at h
noncomputable def Zdl (h:Go.Ev.H):List C→Option (List (List Nat))
 | []=>some []
 | c :: l=>match Zfv h c with
  | some b=>(match Zdl h l with
   | some r=>some (b :: r)
   | none=>none)
  | none=>none
theorem Ws {h:Go.Ev.H}:∀ {cs:List C} {ps:List (List Nat)},Zdl h cs=some ps→cs.length=ps.length∧∀ (j:Nat) (l:List Nat),ps[j]? = some l→∃ c,cs[j]? = some c∧Holds h c l
 | [],ps,e=>by
  cases e
  exact⟨rfl,fun j l hj=>by simp at hj⟩
 | c :: cs,ps,e=>by
  simp only[Zdl] at e
  split at e
  ·rename_i b hb
   split at e
   ·rename_i r hr
    cases e
    obtain⟨h1,h2⟩:=Ws hr
    refine⟨by simp [h1],fun j l hj=>?_⟩
    cases j with
    | zero =>
     simp at hj
     subst hj
     exact⟨c,rfl,Za3 hb⟩
    | succ j=>exact h2 j l (by simpa using hj)
   ·cases e
  ·cases e
def Bq:Option O→Bool
 | some (.row 16 [l] true)=>(match Yx l [.int .u32 0,.int .u32 498536548,.int .u32 997073096,.int .u32 651767980,.int .u32 1994146192,.int .u32 1802195444,.int .u32 1303535960,.int .u32 1342533948,.int .u32 3988292384,.int .u32 4027552580,.int .u32 3604390888,.int .u32 3412177804,.int .u32 2607071920,.int .u32 2262029012,.int .u32 2685067896,.int .u32 3183342108] with
  | some true=>true
  | _=>false)
 | _=>false
theorem Zah:∀ {a b:List C},Yx a b=some true→a=b
 | [],[],_=>rfl
 | .int k x :: a,.int k' y :: b,h=>by
  simp only[Yx] at h
  split at h
  ·rename_i hk
   subst hk
   cases hxy:(x == y) with
   | false=>rw[hxy] at h; cases h
   | true =>
    rw[hxy] at h
    have:x=y:=by simpa using hxy
    rw[this,Zah h]
  ·cases h
 | [],_ :: _,h=>by simp [Yx] at h
 | .int _ _ :: _,[],h=>by simp [Yx] at h
 | .bool _ :: _,_,h=>by simp [Yx] at h
 | .str _ :: _,_,h=>by simp [Yx] at h
 | .ptr _ _ :: _,_,h=>by simp [Yx] at h
 | .pnil :: _,_,h=>by simp [Yx] at h
 | .slice _ _ _ _ :: _,_,h=>by simp [Yx] at h
 | .snil :: _,_,h=>by simp [Yx] at h
 | .map _ :: _,_,h=>by simp [Yx] at h
 | .mnil :: _,_,h=>by simp [Yx] at h
 | .fn _ _ _ :: _,_,h=>by simp [Yx] at h
 | .yield _ :: _,_,h=>by simp [Yx] at h
 | .nilFn :: _,_,h=>by simp [Yx] at h
 | .int _ _ :: _,.bool _ :: _,h=>by simp [Yx] at h
 | .int _ _ :: _,.str _ :: _,h=>by simp [Yx] at h
 | .int _ _ :: _,.ptr _ _ :: _,h=>by simp [Yx] at h
 | .int _ _ :: _,.pnil :: _,h=>by simp [Yx] at h
 | .int _ _ :: _,.slice _ _ _ _ :: _,h=>by simp [Yx] at h
 | .int _ _ :: _,.snil :: _,h=>by simp [Yx] at h
 | .int _ _ :: _,.map _ :: _,h=>by simp [Yx] at h
 | .int _ _ :: _,.mnil :: _,h=>by simp [Yx] at h
 | .int _ _ :: _,.fn _ _ _ :: _,h=>by simp [Yx] at h
 | .int _ _ :: _,.yield _ :: _,h=>by simp [Yx] at h
 | .int _ _ :: _,.nilFn :: _,h=>by simp [Yx] at h
theorem G9 {o:Option O} (h:Bq o=true):o=some Gf:=by
 unfold Bq at h
 split at h
 ·rename_i l
  split at h
  ·rename_i e
   rw[Zah e]
   rfl
  ·cases h
 ·cases h
def Ybe (h:Go.Ev.H):Option (List (List Nat))→Option (V × Go.Ev.H)
 | some ps=>bif Nat.blt ps.length 4294967296 then some (.w (.c (.int .u32 (Nat.xor 4294967295 (Zoc ps 4294967295):Nat))),h) else none
 | none=>none
noncomputable def Yaj (h:Go.Ev.H):Option (List C)→Option (V × Go.Ev.H)
 | some cs=>Ybe h (Zdl h cs)
 | none=>none
noncomputable def Ybd (h:Go.Ev.H) (len:Nat):Option O→Option (V × Go.Ev.H)
 | some (.row 1 els _)=>bif Nat.beq els.length len&&Bq (h.get 0) then Yaj h (Ve els) else none
 | _=>none
noncomputable def Z94 (args:List W) (h:Go.Ev.H):Option (V × Go.Ev.H):=match args with
 | [.c (.slice n 0 len 1)]=>Ybd h len (h.get n)
 | _=>none
def zeroV (h:Go.Ev.H):Option (List Nat)→Option (V × Go.Ev.H)
 | some l=>some (.w (.c (.bool (Ze5 l))),h)
 | none=>none
noncomputable def Z05 (args:List W) (h:Go.Ev.H):Option (V × Go.Ev.H):=match args with
 | [.c c]=>zeroV h (Zfv h c)
 | _=>none
section
variable (Hh:Hearts K Tryz.prog)
include Hh
theorem Z5l {args:List W} {h h':Go.Ev.H} {v:V} (e:Z94 args h=some (v,h')):Zg 197 args h v h':=by
 unfold Z94 at e
 split at e
 ·rename_i n len
  unfold Ybd at e
  split at e
  ·rename_i els ro ho
   cases hb:(Nat.beq els.length len&&Bq (h.get 0)) with
   | false=>rw[hb] at e; cases e
   | true =>
    rw[hb] at e
    simp only[Bool.and_eq_true] at hb
    obtain⟨hb1,hb2⟩:=hb
    have hlen:=Nat.eq_of_beq_eq_true hb1
    simp only[cond_true] at e
    unfold Yaj at e
    split at e
    ·rename_i cs hcs
     unfold Ybe at e
     split at e
     ·rename_i ps hps
      cases hbl:Nat.blt ps.length 4294967296 with
      | false=>rw[hbl] at e; cases e
      | true =>
       rw[hbl] at e
       cases e
       obtain⟨l1,l2⟩:=Ws hps
       have he:=Ze6 hcs
       subst he
       rw[List.length_map] at hlen
       have:=Z7r Hh h n cs ro ps ho (G9 hb2) l1 (by simpa [Nat.blt_eq] using hbl) l2
       rw[←l1,hlen] at this
       exact this
     ·cases e
    ·cases e
  ·cases e
 ·cases e
theorem Z2z {args:List W} {h h':Go.Ev.H} {v:V} (e:Z05 args h=some (v,h')):Zg 93 args h v h':=by
 unfold Z05 at e
 split at e
 ·rename_i c
  unfold zeroV at e
  split at e
  ·rename_i l hl
   cases e
   exact Z13 Hh h c l (Za3 hl)
  ·cases e
 ·cases e
end
end Go.Proofs.YtecakmodlkbnaaaGreatDoor
