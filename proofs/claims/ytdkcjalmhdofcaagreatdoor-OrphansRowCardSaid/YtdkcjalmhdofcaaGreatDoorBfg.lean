/- bits.First, of any block: the first clear bit from a number on, ahead of another. -/
import Derived.Test.YtdkcjalmhdofcaaGreatDoorBits
import Derived.Test.YtdkcjalmhdofcaaGreatDoorEvC
set_option linter.unusedSimpArgs false
set_option linter.unusedVariables false
set_option linter.unusedSectionVars false
set_option maxRecDepth 100000
set_option maxHeartbeats 4000000
namespace Go.Proofs.YtdkcjalmhdofcaaGreatDoor
open Go.Ev
noncomputable def q33 (p:List Nat):Code:=piece p (Jz Tryz.f33)
theorem rs33:Tryz.f33.results.toList=[.tmp 6]:=rfl
attribute [go_sem] rs33
section
variable (Hh:Hearts K Tryz.prog)
include Hh
theorem Zqr (g:Nat→Bool) {p t u:Nat} (tu:t≤u) (u2:u≤2048) (ht:t<u→g t=false) {h:Go.Ev.H} (hp:h.get p=some (.row 256 [Oo g] false)):∀ (k i:Nat) (ts:Zy),i+k=t→(∀ j,i≤j→j<t→g j=true)→Zm ts 3=.w (.c (.ptr p 0))→Zm ts 2=.w (.c (.int .i64 (u:Int)))→Zm ts 7=.w (.c (.int .i64 (i:Int))) →
  Goes K Tryz.prog 27 none (q33 [1,1,0,1,2]) [] ts h fun x ds' ts' h'=>((t<u∧x=.ret∧Zm ts' 6=.w (.c (.int .i64 (t:Int))))∨(t=u∧x=.exit 0))∧ds'=[]∧h'=h:=by
 intro k
 induction k with
 | zero =>
  intro i ts hi _ t3 t2 t7
  obtain rfl:i=t:=by omega
  rcases Nat.lt_or_ge i u with lt|ge
  ·have gi:=ht lt
   have cm:=fun h=>Zn3 Hh h i
   have q1:Fe .i64 (i:Int) 8=some (.int .i64 ((i / 8:Nat):Int)):=Ej (b:=8) (by omega) (by omega)
   have rd:read1 256 [Oo g] (i / 8)=some (.int .u8 ((byB g (i / 8):Nat):Int)):=by
    unfold read1
    rw[Nat.div_eq_of_lt (by omega),Nat.mod_eq_of_lt (by omega),List.getElem?_cons_zero]
    exact Zbn g _ (by omega)
   have l1:Gb .u8 Nat.land ((byB g (i / 8):Nat):Int) ((2 ^ (i % 8):Nat):Int)=.int .u8 ((0:Nat):Int):=by
    rw[Zp7 (R4 _ _) (Vs _) (land256 (R4 _ _)),Zew,gi]
    rfl
   iterate 9 (first|apply Goes.seq|apply Goes.skip|apply Goes.block|apply Goes.loop|((first|apply Goes.Zo|apply Goes.ops2 fits Hh Zb); · simp (maxSteps:=9^6) +decide (disch:=first|omega|(simp only[lens]<;>omega)|decide) only [go_sem,Zd,Za,simprocAttr,t2,t3,t7,hp,q1,rd,l1]<;>rfl))
   iterate 5 (first|apply Goes.seq|apply Goes.ret|((first|apply Goes.Zo|apply Goes.ops2 fits Hh (Ue Zb cm)); · simp (maxSteps:=9^6) +decide (disch:=first|omega|(simp only[lens]<;>omega)|decide) only [go_sem,Zd,Za,simprocAttr,t2,t3,t7,hp,q1,rd,l1]<;>rfl)|(apply Goes.drawn2 fits Hh (Ue Zb cm) (by kernel_rfl); · simp (maxSteps:=9^6) +decide (disch:=first|omega|(simp only[lens]<;>omega)|decide) only [go_sem,Zd,Za,simprocAttr,drG,t2,t3,t7,hp,q1,rd,l1]<;>rfl))
   refine⟨.inl ⟨lt,rfl,?_⟩,rfl,rfl⟩
   simp (maxSteps:=9^6) +decide (disch:=first|omega|(simp only[lens]<;>omega)|decide) only [go_sem,Zd,Za,simprocAttr,t7]<;>rfl
  ·obtain rfl:i=u:=by omega
   iterate 6 (first|apply Goes.seq|apply Goes.exit|apply Goes.loop|((first|apply Goes.Zo|apply Goes.ops2 fits Hh Zb); · simp (maxSteps:=9^6) +decide (disch:=first|omega|(simp only[lens]<;>omega)|decide) only [go_sem,Zd,Za,simprocAttr,t2,t7]<;>rfl))
   exact⟨.inr ⟨rfl,rfl⟩,rfl,rfl⟩
 | succ k ih =>
  intro i ts hi all t3 t2 t7
  have gi:=all i (by omega) (by omega)
  have cm:=fun h=>Zn3 Hh h i
  have q1:Fe .i64 (i:Int) 8=some (.int .i64 ((i / 8:Nat):Int)):=Ej (b:=8) (by omega) (by omega)
  have rd:read1 256 [Oo g] (i / 8)=some (.int .u8 ((byB g (i / 8):Nat):Int)):=by
   unfold read1
   rw[Nat.div_eq_of_lt (by omega),Nat.mod_eq_of_lt (by omega),List.getElem?_cons_zero]
   exact Zbn g _ (by omega)
  have p1:0<2 ^ (i % 8):=Nat.pow_pos (by omega)
  have e1:(((2 ^ (i % 8):Nat):Int) == 0)=false:=Va (by exact_mod_cast (Nat.pos_iff_ne_zero.1 p1))
  have l1:Gb .u8 Nat.land ((byB g (i / 8):Nat):Int) ((2 ^ (i % 8):Nat):Int)=.int .u8 ((2 ^ (i % 8):Nat):Int):=by
   rw[Zp7 (R4 _ _) (Vs _) (land256 (R4 _ _)),Zew,gi]
   rfl
  iterate 9 (first|apply Goes.seq|apply Goes.skip|apply Goes.block|apply Goes.loop|((first|apply Goes.Zo|apply Goes.ops2 fits Hh Zb); · simp (maxSteps:=9^6) +decide (disch:=first|omega|(simp only[lens]<;>omega)|decide) only [go_sem,Zd,Za,simprocAttr,t2,t3,t7,hp,q1,rd,l1,e1]<;>rfl))
  iterate 4 (first|apply Goes.skip|((first|apply Goes.Zo|apply Goes.ops2 fits Hh (Ue Zb cm)); · simp (maxSteps:=9^6) +decide (disch:=first|omega|(simp only[lens]<;>omega)|decide) only [go_sem,Zd,Za,simprocAttr,t2,t3,t7,hp,q1,rd,l1,e1]<;>rfl)|(apply Goes.drawn2 fits Hh (Ue Zb cm) (by kernel_rfl); · simp (maxSteps:=9^6) +decide (disch:=first|omega|(simp only[lens]<;>omega)|decide) only [go_sem,Zd,Za,simprocAttr,drG,t2,t3,t7,hp,q1,rd,l1,e1]<;>rfl))
  show Goes K Tryz.prog 27 none (q33 [1,1,0,1,2]) _ _ _ _
  refine ih (i+1) _ (by omega) (fun j h1 h2=>all j (by omega) h2) ?_ ?_ ?_
  ·simp (maxSteps:=9^6) +decide (disch:=first|omega|(simp only[lens]<;>omega)|decide) only [go_sem,Zd,Za,simprocAttr,t3]
  ·simp (maxSteps:=9^6) +decide (disch:=first|omega|(simp only[lens]<;>omega)|decide) only [go_sem,Zd,Za,simprocAttr,t2]
  ·simp (maxSteps:=9^6) +decide (disch:=first|omega|(simp only[lens]<;>omega)|decide) only [go_sem,Zd,Za,simprocAttr]<;>rfl
theorem Z0p (g:Nat→Bool) {s t u:Nat} (st:s≤t) (tu:t≤u) (u2:u≤2048) (all:∀ j,s≤j→j<t→g j=true) (ht:t<u→g t=false) (h:Go.Ev.H):Zg K Tryz.prog 33 [.g (Oo g),.c (.int .i64 (s:Int)),.c (.int .i64 (u:Int))] h (.w (.c (.int .i64 (if t<u then (t:Int) else -1)))) h:=by
 have mx:max (s:Int) 0=(s:Int):=by omega
 have mn:min (u:Int) 2048=(u:Int):=by omega
 have mi:¬(2048<(u:Int)):=by omega
 have mj:¬((s:Int)<0):=by omega
 have pl:=Vr g
 have lp:=fun (h:Go.Ev.H) (p:Nat) hp=>Zqr Hh g tu u2 ht (h:=h) (p:=p) hp (t - s) s
 obtain⟨G,hG⟩:∃ G,Oo g=G:=⟨_,rfl⟩
 rw[hG] at pl ⊢
 simp only[hG] at lp
 obtain⟨v,h',cc,rfl,hk⟩:∃ v h',Zg K Tryz.prog 33 [.g G,.c (.int .i64 (s:Int)),.c (.int .i64 (u:Int))] h v h'∧v=.w (.c (.int .i64 (if t<u then (t:Int) else -1)))∧∀ m,m<h.next→h'.get m=h.get m:=by
  refine Zg.Yb fits Hh (by kernel_rfl) (by kernel_rfl) (by kernel_rfl) (show Tryz.f33.body=some _ from rfl) rfl ?_
  iterate 8 (first|apply Goes.seq|apply Goes.block|(apply Goes.ops2 fits Hh Zb; · simp (maxSteps:=9^6) +decide (disch:=first|omega|(simp only[lens]<;>omega)|decide) only [go_sem,Za,simprocAttr,mx,mn,mi,mj,pl,if_neg,if_false,Zn,Z6,read1]<;>rfl))
  refine (lp _ h.next ?_ _ (by omega) all ?_ ?_ ?_).mono ?_
  ·simp (maxSteps:=9^6) +decide (disch:=first|omega|(simp only[lens]<;>omega)|decide) only [go_sem,Za,simprocAttr,pl]<;>rfl
  ·simp (maxSteps:=9^6) +decide (disch:=first|omega|(simp only[lens]<;>omega)|decide) only [go_sem,Za,simprocAttr]<;>rfl
  ·simp (maxSteps:=9^6) +decide (disch:=first|omega|(simp only[lens]<;>omega)|decide) only [go_sem,Za,simprocAttr,mx,mn,mi,mj,if_neg,if_false]<;>rfl
  ·simp (maxSteps:=9^6) +decide (disch:=first|omega|(simp only[lens]<;>omega)|decide) only [go_sem,Za,simprocAttr,mx,mn,mi,mj,if_neg,if_false]<;>rfl
  rintro x ds' ts' h' ⟨hx,rfl,rfl⟩
  rcases hx with ⟨lt,rfl,t6⟩|⟨rfl,rfl⟩
  ·rw[if_pos lt]
   exact⟨_,_,(by simp (maxSteps:=9^6) +decide (disch:=first|omega|(simp only[lens]<;>omega)|decide) only [go_sem,Zd,Za,simprocAttr,t6]<;>rfl),rfl,fun m hm=>by (first|(simp (discharger:=omega) only [H.get_put,H.Zf,H.Zk,H.Zc,H.Zh,H.Zi,if_neg]; done)|(simp only[H.get_put,H.Zf,H.Zk,H.Zc,H.Zh,H.Zi]; (repeat' split)<;>first|rfl|(exfalso; omega)|omega))⟩
  ·rw[if_neg (Nat.lt_irrefl _)]
   iterate 3 (first|apply Goes.seq|apply Goes.ret|(apply Goes.ops2 fits Hh Zb; · simp (maxSteps:=9^6) +decide (disch:=first|omega|(simp only[lens]<;>omega)|decide) only [go_sem,Zd,Za,simprocAttr]<;>rfl))
   exact⟨_,_,(by simp (maxSteps:=9^6) +decide (disch:=first|omega|(simp only[lens]<;>omega)|decide) only [go_sem,Zd,Za,simprocAttr]<;>rfl),rfl,fun m hm=>by (first|(simp (discharger:=omega) only [H.get_put,H.Zf,H.Zk,H.Zc,H.Zh,H.Zi,if_neg]; done)|(simp only[H.get_put,H.Zf,H.Zk,H.Zc,H.Zh,H.Zi]; (repeat' split)<;>first|rfl|(exfalso; omega)|omega))⟩
 exact cc.quiet rfl hk
end
end Go.Proofs.YtdkcjalmhdofcaaGreatDoor
