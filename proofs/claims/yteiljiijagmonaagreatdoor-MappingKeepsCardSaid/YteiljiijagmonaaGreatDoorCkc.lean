/- Rounds of ranges over functions, of any variables. -/
import Derived.Test.YteiljiijagmonaaGreatDoorCkb
set_option maxRecDepth 100000
set_option maxHeartbeats 4000000
set_option linter.unusedSimpArgs false
set_option linter.unusedVariables false
set_option linter.unusedSectionVars false
namespace Go.Proofs.YteiljiijagmonaaGreatDoor
open Go.Ev
theorem Zfl {n:Nat} {rd:Option Nat} {cd:Go.Code} {ds:Lq} {ts:Zw} {h:Hq} {Q:X->Lq->Zw->Hq->Prop} (g:∀ ts',ts'=ts->Z7 n rd cd ds ts' h Q):Z7 n rd cd ds ts h Q:=g ts rfl
theorem Zkq {nt l dd:Nat} {ps:Lq} {ts tz:Zw} {A B:Go.Code} (ne:B≠A) {us:List W} {h:Hq} {J:Zw->Hq->Prop} {Q:Hq->Prop} (z:Uk nt ps us ts=some tz)
  (hl:h.get l=some (.loop ts nt ps A B .ready none dd))
  (hA:Z7 nt (some l) A [] tz h fun x ds' ts' h'=>x=.normal/\ds'=[]/\h'.get l=h.get l/\J ts' h')
  (hB:∀ ts' h',J ts' h'->Z7 nt (some l) B [] ts' (h'.put l (.loop ts nt ps A B .busy none dd)) fun x _ _ h2=>x=.normal/\h2.get l=some (.loop ts nt ps A B .busy none dd)/\Q h2) :
  ∃ E h2,Sound K Tryz.prog E/\Gc E l (some us) h (some (.loop ts nt ps A B .ready none dd))=some (.val (.w (.c (.bool true))) (h2.put l (.loop ts nt ps A B .ready none dd)))/\Q h2:=by
 obtain⟨xa,ds1,ts1,h1,kA,rfl,rfl,gl,j⟩:=hA
 obtain⟨xb,ds2,ts2,h2,kB,rfl,g2,q⟩:=hB _ _ j
 have Sd:=Bt (Bt Za kB) kA
 obtain⟨E,h3,Sd2,r,rfl⟩:∃ E h3,Sound K Tryz.prog E/\Gc E l (some us) h (h.get l)=some (.val (.w (.c (.bool true))) h3)/\h3=h2.put l (.loop ts nt ps A B .ready none dd) :=
  ⟨_,_,Sd,Lu hl z (Eh ..) (gl.trans hl) (Wl (fun e=>ne (Task.code.inj e).1) |>.trans (Eh ..)) g2,rfl⟩
 rw[hl] at r
 exact⟨_,_,Sd2,r,q⟩
noncomputable def q133 (p:Lq):Code:=piece p (Ug Tryz.f133)
theorem rs133:Tryz.f133.results.toList=[]:=rfl
attribute [go_sem] rs133
theorem rs33:Tryz.f33.results.toList=[.tmp 2]:=rfl
attribute [go_sem] rs33
noncomputable def lpC (ts:Zw) (d:Nat) (fu:Bool):O:=.loop ts 99 [36,37] (q72 [1,1,1,1,0,1,2,5]) (q72 [1,1,1,1,0,1,2,6]) (bif fu then .done else .ready) (bif fu then some (.exit 0) else none) d
theorem Zwh {nt l dd ex:Nat} {ps:Lq} {ts tz:Zw} {A B:Go.Code} (ne:B≠A) {us:List W} {h:Hq} {J:Zw->Hq->Prop} {Q:Hq->Prop} (z:Uk nt ps us ts=some tz)
  (hl:h.get l=some (.loop ts nt ps A B .ready none dd))
  (hA:Z7 nt (some l) A [] tz h fun x ds' ts' h'=>x=.normal/\ds'=[]/\h'.get l=h.get l/\J ts' h')
  (hB:∀ ts' h',J ts' h'->Z7 nt (some l) B [] ts' (h'.put l (.loop ts nt ps A B .busy none dd)) fun x _ _ h2=>x=.exit ex/\h2.get l=some (.loop ts nt ps A B .busy none dd)/\Q h2) :
  ∃ E h2,Sound K Tryz.prog E/\Gc E l (some us) h (some (.loop ts nt ps A B .ready none dd))=some (.val (.w (.c (.bool false))) (h2.put l (.loop ts nt ps A B .done (some (.exit ex)) dd)))/\Q h2:=by
 obtain⟨xa,ds1,ts1,h1,kA,rfl,rfl,gl,j⟩:=hA
 obtain⟨xb,ds2,ts2,h2,kB,rfl,g2,q⟩:=hB _ _ j
 have Sd:=Bt (Bt Za kB) kA
 obtain⟨E,h3,Sd2,r,rfl⟩:∃ E h3,Sound K Tryz.prog E/\Gc E l (some us) h (h.get l)=some (.val (.w (.c (.bool false))) h3)/\h3=h2.put l (.loop ts nt ps A B .done (some (.exit ex)) dd) :=
  ⟨_,_,Sd,Lu hl z (Eh ..) (gl.trans hl) (Wl (fun e=>ne (Task.code.inj e).1) |>.trans (Eh ..)) g2,rfl⟩
 rw[hl] at r
 exact⟨_,_,Sd2,r,q⟩
section
variable (Hh:Hearts K Tryz.prog)
include Hh
variable {n q sh pc pb pk pl fr mo z k0 lv st w Kw Kw1 p6 pD p11 k nn:Nat} {md:Int} {ptr:Nat->Nat->Nat} {Q:Nat->(Nat->Lq)->Prop} {W0:Lq} {V:Nat->Lq} {h:Hq} {l d:Nat} {ts:Zw}
def NL (q pc pb pk pl p6 pD p11 l:Nat):Prop:=q+9<=l/\l≠pc/\l≠pb/\l≠pk/\l≠pl/\l≠p6/\l≠pD/\l≠p11
omit Hh in
theorem NL.get {fu:Bool} {V:Nat->Lq} {h:Hq} {o:O} (N:NL q pc pb pk pl p6 pD p11 l) (B:BS n q md sh pc pb pk pl fr mo ptr Q z k0 W0 lv p6 pD p11 k nn fu V h):BS n q md sh pc pb pk pl fr mo ptr Q z k0 W0 lv p6 pD p11 k nn fu V (h.put l o) :=
 B.keep (by rw[H.Zb]; omega) fun m hm=>Zd (by
  obtain⟨n1,n2,n3,n4,n5,n6,n7,n8⟩:=N
  rcases hm with e|e|e|e|e|e|e|e
  ·exact fun w=>by rw[w] at e; omega
  all_goals (rw[e]; exact Ne.symm (by assumption)))
theorem Z27 (N:NL q pc pb pk pl p6 pD p11 l) (w6:w<64) (lv4:lv<4) (kid:Zgc n q md sh pc pb pk pl fr mo ptr Q z lv st w Kw Kw1) (p32:∀ k w,ptr k w<4294967296) (B:BS n q md sh pc pb pk pl fr mo ptr Q z k0 W0 lv p6 pD p11 k nn false V h) (kK:k<=Kw1) (t3:Ze ts 3=.w (.c (.ptr pb 0))) (t4:Ze ts 4=.w (.c (.ptr pk 0))) (t6:Ze ts 6=.w (.c (.ptr p6 0))) (t10:Ze ts 10=.w (.c (.ptr pD 0))) (t11:Ze ts 11=.w (.c (.ptr p11 0))) (hl:h.get l=some (lpC ts d false)) (ll:l<h.next) :
  ∃ k2 nn2 fu2 V2 E h',Acc mo Kw k nn k2 nn2 fu2/\Sound K Tryz.prog E/\Gc E l (some [.c (.int .i64 (w:Int)),.c (.int .i64 (st:Int))]) h (some (lpC ts d false))=some (.val (.w (.c (.bool (!fu2)))) h')/\BS n q md sh pc pb pk pl fr mo ptr Q z k0 W0 lv p6 pD p11 k2 nn2 fu2 V2 h'/\h'.get l=some (lpC ts d fu2)/\h.next<=h'.next/\∀ m,m<h.next->Ez n q m->m≠pc->m≠pD->m≠p11->m≠l->h'.get m=h.get m:=by
 have B2:BS n q md sh pc pb pk pl fr mo ptr Q z k0 W0 lv p6 pD p11 k nn false V (h.put l (.loop ts 99 [36,37] (q72 [1,1,1,1,0,1,2,5]) (q72 [1,1,1,1,0,1,2,6]) .busy none d)):=N.get B
 have lo:Ez n q l:=⟨by have:=N.1; have:=B.C.M.nx; omega,.inr N.1⟩
 have ne:q72 [1,1,1,1,0,1,2,6]≠q72 [1,1,1,1,0,1,2,5]:=fun e=>by rw[Zm1,Zm0] at e; cases e
 obtain⟨xa,ds1,ts1,h1,kA,rfl,rfl,tl,e12,e13,rfl⟩:=ckA Hh l ts w st h
 obtain⟨k2,nn2,fu2,V2,acc,g⟩:=Z6g Hh (l:=l) w6 lv4 kid p32 B2 kK ((tl 3 dM).trans t3) ((tl 4 dM).trans t4) ((tl 6 dM).trans t6) ((tl 10 dM).trans t10) ((tl 11 dM).trans t11) e12 e13
 have A:Z7 99 (some l) (q72 [1,1,1,1,0,1,2,5]) [] ((ts.set 36 (.w (.c (.int .i64 (w:Int))))).set 37 (.w (.c (.int .i64 (st:Int))))) h1 fun x ds' ts' h'=>x=.normal/\ds'=[]/\h'.get l=h1.get l/\(ts'=ts1/\h'=h1):=⟨_,_,_,_,kA,rfl,rfl,rfl,rfl,rfl⟩
 have nx2:(h1.put l (.loop ts 99 [36,37] (q72 [1,1,1,1,0,1,2,5]) (q72 [1,1,1,1,0,1,2,6]) .busy none d)).next=h1.next:=rfl
 cases fu2 with
 | false =>
  obtain⟨E,h2,Sd,rnd,q1,q2,q3⟩:=Zkq (Q:=fun h'=>BS n q md sh pc pb pk pl fr mo ptr Q z k0 W0 lv p6 pD p11 k2 nn2 false V2 h'/\h1.next<=h'.next/\∀ m,m<h1.next->Ez n q m->m≠pc->m≠pD->m≠p11->m≠l->h'.get m=h1.get m) ne (us:=[.c (.int .i64 (w:Int)),.c (.int .i64 (st:Int))]) (show Uk 99 [36,37] [.c (.int .i64 (w:Int)),.c (.int .i64 (st:Int))] ts=some ((ts.set 36 (.w (.c (.int .i64 (w:Int))))).set 37 (.w (.c (.int .i64 (st:Int))))) from rfl) hl A (by
   rintro _ _ ⟨rfl,rfl⟩
   refine g.mono ?_
   rintro x ds' ts' h' ⟨rfl,b1,b2,b3⟩
   exact⟨rfl,(b3 l ll lo N.2.1 N.2.2.2.2.2.2.1 N.2.2.2.2.2.2.2).trans (Zx ..),b1,b2,fun m hm ho m1 m2 m3 m4=>(b3 m hm ho m1 m2 m3).trans (Zd m4)⟩)
  exact⟨k2,nn2,false,V2,E,_,acc,Sd,rnd,N.get q1,Zx ..,q2,fun m hm ho m1 m2 m3 m4=>(Zd m4).trans (q3 m hm ho m1 m2 m3 m4)⟩
 | true =>
  obtain⟨E,h2,Sd,rnd,q1,q2,q3⟩:=Zwh (Q:=fun h'=>BS n q md sh pc pb pk pl fr mo ptr Q z k0 W0 lv p6 pD p11 k2 nn2 true V2 h'/\h1.next<=h'.next/\∀ m,m<h1.next->Ez n q m->m≠pc->m≠pD->m≠p11->m≠l->h'.get m=h1.get m) ne (us:=[.c (.int .i64 (w:Int)),.c (.int .i64 (st:Int))]) (show Uk 99 [36,37] [.c (.int .i64 (w:Int)),.c (.int .i64 (st:Int))] ts=some ((ts.set 36 (.w (.c (.int .i64 (w:Int))))).set 37 (.w (.c (.int .i64 (st:Int))))) from rfl) hl A (by
   rintro _ _ ⟨rfl,rfl⟩
   refine g.mono ?_
   rintro x ds' ts' h' ⟨rfl,b1,b2,b3⟩
   exact⟨rfl,(b3 l ll lo N.2.1 N.2.2.2.2.2.2.1 N.2.2.2.2.2.2.2).trans (Zx ..),b1,b2,fun m hm ho m1 m2 m3 m4=>(b3 m hm ho m1 m2 m3).trans (Zd m4)⟩)
  exact⟨k2,nn2,true,V2,E,_,acc,Sd,rnd,N.get q1,Zx ..,q2,fun m hm ho m1 m2 m3 m4=>(Zd m4).trans (q3 m hm ho m1 m2 m3 m4)⟩
def KL (n q pc pD p11 l:Nat) (h h':Hq):Prop:=h.next<=h'.next/\∀ m,m<h.next->Ez n q m->m≠pc->m≠pD->m≠p11->m≠l->h'.get m=h.get m
theorem Z6h {sp fi w0 kk0 nn0:Nat} {Kf:Nat->Nat} {pf pr:Nat} (N:NL q pc pb pk pl p6 pD p11 l) (lv4:lv<4) (kid:∀ w,w<64->w0<=w->Zgc n q md sh pc pb pk pl fr mo ptr Q z lv (fi+w * sp) w (Kf w) (Kf (w+1))) (mon:∀ i j,i<=j->Kf i<=Kf j) (p32:∀ k w,ptr k w<4294967296) (t3:Ze ts 3=.w (.c (.ptr pb 0))) (t4:Ze ts 4=.w (.c (.ptr pk 0))) (t6:Ze ts 6=.w (.c (.ptr p6 0))) (t10:Ze ts 10=.w (.c (.ptr pD 0))) (t11:Ze ts 11=.w (.c (.ptr p11 0)))
  (sp6:sp<=64) (fi4:fi<100000) (fr4:fr<100000) (hw:∀ w,w<64->(fi+w * sp+sp<=fr ↔ w<w0)) (of:Ez n q pf/\pf≠pc/\pf≠pD/\pf≠p11/\pf≠l) (or:Ez n q pr/\pr≠pc/\pr≠pD/\pr≠p11/\pr≠l) :
  ∀ (j k nn:Nat) (V:Nat->Lq) (ts1:Zw) (h1:Hq),j<=64->w0<=j->BS n q md sh pc pb pk pl fr mo ptr Q z k0 W0 lv p6 pD p11 k nn false V h1->Acc mo (Kf j) kk0 nn0 k nn false->k<=Kf j->h1.get l=some (lpC ts d false)->l<h1.next->pf<h1.next->pr<h1.next->h1.get pf=some (.row 1 [[.int .i64 (fi:Int)]] false)->h1.get pr=some (.row 1 [[.int .i64 (fr:Int)]] false) ->
  Ze ts1 0=.w (.c (.yield l))->Ze ts1 2=.w (.c (.ptr pf 0))->Ze ts1 3=.w (.c (.ptr pr 0))->Ze ts1 5=.w (.c (.int .i64 (sp:Int)))->Ze ts1 6=.w (.c (.int .i64 ((j:Int) - 1))) ->
  Z7 32 none (q133 [1,1,2]) [] ts1 h1 fun x ds _ h'=>∃ k2 nn2 fu2 V2,(x=.exit 0\/x=.ret)/\ds=[]/\Acc mo (Kf w0) kk0 nn0 k2 nn2 fu2/\BS n q md sh pc pb pk pl fr mo ptr Q z k0 W0 lv p6 pD p11 k2 nn2 fu2 V2 h'/\h'.get l=some (lpC ts d fu2)/\KL n q pc pD p11 l h1 h':=by
 intro j
 induction j with
 | zero =>
  intro k nn V ts1 h1 j6 wj B acc kj hl ll lf lr hf hr s0 s2 s3 s5 s6
  obtain rfl:w0=0:=oM
  have d0:decide ((0:Int)<=((0:Nat):Int) - 1)=false:=rfl
  have Jf:=Nt @s0 @s2 @s3 @s5 @s6 @d0
  iterate 6 (first|apply Zu|apply Gr|apply J8|refine Goes.Zl Zn ?_|refine Zr Hh Za Zn ?_)
  exact⟨k,nn,false,V,.inl rfl,rfl,acc,B,hl,Nat.le_refl _,fun _ _ _ _ _ _ _=>rfl⟩
 | succ w ih =>
  intro k nn V ts1 h1 j6 wj B acc kj hl ll lf lr hf hr s0 s2 s3 s5 s6
  have es:((w+1:Nat):Int) - 1=(w:Int):=oM
  rw[es] at s6
  have d0:decide ((0:Int)<=(w:Int))=true:=decide_eq_true oM
  have hw':=hw w oM
  have wle:w * sp<=64 * 64:=Nat.mul_le_mul oM sp6
  have em:(w:Int) * (sp:Int)=((w * sp:Nat):Int):=by rw[Int.natCast_mul]
  obtain⟨st,hst⟩:=xzE (fi+w * sp)
  have e1:(fi:Int)+((w * sp:Nat):Int)=(st:Int):=oM
  have e2:(st:Int)+(sp:Int)=((st+sp:Nat):Int):=rfl
  obtain⟨ms,hms⟩:=xzE (w * sp)
  rw[hst] at hw'
  have kd:=kid w oM
  rw[hst] at kd
  rw[hms] at em e1 wle hst
  by_cases lo:st+sp<=fr
  ·obtain rfl:w0=w+1:=by have:=hw'.1 lo; omega
   have d1:decide ((st:Int)+(sp:Int)<=(fr:Int))=true:=decide_eq_true oM
   have Jf:=Ju @s0 @s2 (Yw @s3 @s5 @s6 @d0 @d1 @hf @hr @em @e1)
   iterate 14 (first|apply Zu|apply Ye|apply Zmg|apply Yc|apply J8|refine Goes.Zl Z6 ?_|refine Zr Hh Za Z6 ?_)
   exact⟨k,nn,false,V,.inr rfl,rfl,acc,B,hl,Nat.le_refl _,fun _ _ _ _ _ _ _=>rfl⟩
  ·have ww:w0<=w:=by
    rcases Nat.lt_or_ge w w0 with x|x
    ·exact absurd (hw'.2 x) lo
    ·exact x
   have d1:decide ((st:Int)+(sp:Int)<=(fr:Int))=false:=decide_eq_false oM
   obtain⟨k2,nn2,fu2,V2,E,h2,acc2,Sd,rnd,B2,hl2,n2,k2'⟩:=Z27 Hh N oM lv4 (kd ww) p32 B kj t3 t4 t6 t10 t11 hl ll
   have ac:=acc.then acc2 (mon _ _ oM)
   cases fu2 with
   | true =>
    have Jf:=Ej @s0 @s2 @s3 @s5 (Yw @s6 @d0 @d1 @hf @hr @em @e1 @hl @rnd)
    iterate 11 (first|apply Zu|apply Ye|apply Zmg|apply J8|refine Goes.Zl Z6 ?_|refine Zr Hh Za Z6 ?_)
    iterate 3 (first|apply Yc|refine Goes.Zl Z6 ?_|refine Zr Hh Sd Z6 ?_)
    exact⟨k2,nn2,true,V2,.inr rfl,rfl,ac.low (mon _ _ ww),B2,hl2,n2,k2'⟩
   | false =>
    have Jf:=Ej @s0 @s2 @s3 @s5 (Yw @s6 @d0 @d1 @hf @hr @em @e1 @hl @rnd)
    iterate 11 (first|apply Zu|apply Ye|apply Zmg|apply J8|refine Goes.Zl Z6 ?_|refine Zr Hh Za Z6 ?_)
    iterate 4 (first|apply Ye|refine Goes.Zl Z6 ?_|refine Zr Hh Sd Z6 ?_)
    show Z7 32 none (q133 [1,1,2]) _ _ _ _
    refine (ih k2 nn2 V2 _ h2 oM ww B2 ac (by have:=ac.2.1 rfl; omega) hl2 oM oM oM ((k2' pf lf of.1 of.2.1 of.2.2.1 of.2.2.2.1 of.2.2.2.2).trans hf) ((k2' pr lr or.1 or.2.1 or.2.2.1 or.2.2.2.1 or.2.2.2.2).trans hr) ?_ ?_ ?_ ?_ ?_).mono ?_
    ·have Jf:=@s0; exact Zn
    ·have Jf:=@s2; exact Zn
    ·have Jf:=@s3; exact Zn
    ·have Jf:=@s5; exact Zn
    ·exact Zf
    rintro x ds _ h' ⟨k3,nn3,fu3,V3,hx,hd,ac3,B3,hl3,n3,k3'⟩
    exact⟨k3,nn3,fu3,V3,hx,hd,ac3,B3,hl3,oM,fun m hm ho m1 m2 m3 m4=>(k3' m oM ho m1 m2 m3 m4).trans (k2' m hm ho m1 m2 m3 m4)⟩
end
end Go.Proofs.YteiljiijagmonaaGreatDoor
