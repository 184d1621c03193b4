/- stringslite.IndexByte, strings.IndexAny of short ASCII as the evaluator asks them. -/
import Derived.Test.YtmanipmhebgdbaaGreatDoorOrn
set_option maxRecDepth 100000
set_option maxHeartbeats 4000000
set_option linter.unusedSimpArgs false
set_option linter.unusedVariables false
set_option linter.unusedSectionVars false
namespace Go.Proofs.YtmanipmhebgdbaaGreatDoor
open Go.Ev Go.RowKit
noncomputable section
def Ycb (args:List W) (h:Hq):Option (V × Hq):=match args with
 | [.c (.str s),.c (.int .u8 c)]=>some (.w (.c (.int .i64 (Go.Lib.indexByte s c.toNat.toUInt8))),h)
 | _=>none
theorem Z87 {args:List W} {h h':Hq} {v:V} (e:Ycb args h=some (v,h')):Zb 217 args h v h':=by
 unfold Ycb at e
 split at e
 ·rename_i s c
  cases e
  refine Zu.Zw1 ⟨Tryz.f217,Tryz.func217,kR,by decide⟩ fun ρ w vals hr ha=>?_
  obtain⟨a,b,rfl,hx,hy⟩:=Ez ha
  have e1:a=.string ⟨⟨s⟩⟩:=hx
  have e2:b=.int .u8 c:=hy
  subst e1; subst e2
  exact⟨_,rfl,Any.stringslite_IndexByte Tryz.lays217 ⟨⟨s⟩⟩ c w⟩
 ·cases e
def Zhy:List UInt8->Bool
 | []=>true
 | b :: l=>Nat.blt b.toNat 128&&Zhy l
theorem Zhz:∀ {l:List UInt8},Zhy l=true->∀ (j:Nat) b,l[j]? = some b->b.toNat<128
 | [],_,j,b,h=>by simp at h
 | x :: l,e,j,b,h=>by
  simp only[Zhy,aQ] at e
  cases j with
  | zero=>cases h; simpa [Nat.blt_eq] using e.1
  | succ j=>exact Zhz e.2 j b (by simpa using h)
def xIA (args:List W) (h:Hq):Option (V × Hq):=match args with
 | [.c (.str s),.c (.str c)]=>bif Nat.ble 2 c.length&&Nat.ble s.length 8&&Zhy s then some (.w (.c (.int .i64 (Go.Lib.indexAny s c))),h) else none
 | _=>none
theorem Yb7 {args:List W} {h h':Hq} {v:V} (e:xIA args h=some (v,h')):Zb 189 args h v h':=by
 unfold xIA at e
 split at e
 ·rename_i s c
  cases hb:(Nat.ble 2 c.length&&Nat.ble s.length 8&&Zhy s) with
  | false=>rw[hb] at e; cases e
  | true =>
   rw[hb] at e
   cases e
   simp only[aQ] at hb
   refine Zu.Z21 ⟨Tryz.f189,Tryz.func189,kR,by decide⟩ fun ρ w vals hr ha=>?_
   obtain⟨a,b,rfl,hx,hy⟩:=Ez ha
   have e1:a=.string ⟨⟨s⟩⟩:=hx
   have e2:b=.string ⟨⟨c⟩⟩:=hy
   subst e1; subst e2
   refine⟨_,rfl,(Any.strings_IndexAny_short Tryz.lays153 ⟨⟨s⟩⟩ ⟨⟨c⟩⟩ w (lQ hb.1.1) (lQ hb.1.2) (Zhz hb.2)).mono ?_⟩
   rintro e w' ⟨rfl,pos,rfl⟩
   exact⟨rfl,(Below.refl _ _).alloc (Nat.le_refl _) _⟩
 ·cases e
open Go.Ev
def Splits (path:List UInt8) (A:List (List UInt8)):Prop:=∀ h:Hq,0<h.next->∃ h' p,Zb 18 [.c (.str path)] h (.tup [.c (.slice p 0 A.length 1),.c (.int .i64 0)]) h'/\h.next<=p/\p<h'.next/\h'.get p=some (.row 1 (Qy A) false)/\∀ m,m<h.next->h'.get m=h.get m
def x5:Kn:=fun f args h=>bif Nat.beq f 144 then xIB args h else bif Nat.beq f 217 then Ycb args h else bif Nat.beq f 189 then xIA args h else none
theorem Xt:Zcj K Tryz.prog x5:=by
 intro f args h v h' e
 unfold x5 at e
 cases h1:Nat.beq f 144 with
 | true =>
  rw[h1] at e
  obtain rfl:=bQ h1
  exact Zc1 e
 | false =>
  rw[h1] at e
  cases h2:Nat.beq f 217 with
  | true =>
   rw[h2] at e
   obtain rfl:=bQ h2
   exact Z87 e
  | false =>
   rw[h2] at e
   cases h3:Nat.beq f 189 with
   | true =>
    rw[h3] at e
    obtain rfl:=bQ h3
    exact Yb7 e
   | false=>rw[h3] at e; cases e
section
variable (Hh:Hearts K Tryz.prog)
include Hh
theorem Splits.run {path:List UInt8} {A:List (List UInt8)} (e:Z8a (evX K x5 5000 (.call 18 [.c (.str path)] ⟨.nil,1⟩))=some (Qy A)) (a0:0<A.length):Splits path A:=fun h h0=>by
 obtain⟨h',s,cc,nx,kk,w⟩:=Zu.Z6j fits Hh Xt gl e rfl h h0
 have rl:(Qy A).length=A.length:=by unfold Qy; rw[List.length_map]
 rcases w with ⟨w,_⟩|⟨q,q1,q2,rfl,q3,_⟩
 ·rw[w] at rl; simp at rl; omega
 ·rw[rl] at cc
  exact⟨h',q,cc,q1,q2,q3,kk⟩
theorem Za0:Splits (47 :: first5) [first5]:=Splits.run Hh kR dM
theorem Zmq:∀ k,k<12->Splits (47 :: ltr k) [ltr k]
 | 0,_=>Splits.run Hh kR dM
 | 1,_=>Splits.run Hh kR dM
 | 2,_=>Splits.run Hh kR dM
 | 3,_=>Splits.run Hh kR dM
 | 4,_=>Splits.run Hh kR dM
 | 5,_=>Splits.run Hh kR dM
 | 6,_=>Splits.run Hh kR dM
 | 7,_=>Splits.run Hh kR dM
 | 8,_=>Splits.run Hh kR dM
 | 9,_=>Splits.run Hh kR dM
 | 10,_=>Splits.run Hh kR dM
 | 11,_=>Splits.run Hh kR dM
 | _+12,h=>absurd h oM
end
open Go.Ev
def q9 (p:Lq):Code:=piece p (J7 Tryz.f9)
theorem rs24:Tryz.f24.results.toList=[.tmp 6,.tmp 7,.tmp 8]:=rfl
theorem rs9:Tryz.f9.results.toList=[.tmp 6,.tmp 7]:=rfl
theorem rs26:Tryz.f26.results.toList=[.tmp 4]:=rfl
attribute [go_sem] rs24 rs9 rs26
section
variable (Hh:Hearts K Tryz.prog)
include Hh
variable {n q:Nat} {cr:Cr} {md:Int} {iw:Nat->Nat × Nat} {V:Nat->Lq} {N:List UInt8->Nat} {h:Hq} {l:Nat} {s:List UInt8}
theorem Z8k {a b c e:Nat} {S T:Lq} (f:Yw a b c e=true) (m0:md≠0) (M:HE n q a b c e cr md S T V h) {path other:List UInt8} {A B:List (List UInt8)} (sp1:Splits path A) (sp2:Splits other B) :
  ∃ h' p1 p2,Zb 24 [.c (.ptr (n+13) 0),.c (.str path),.c (.str other)] h (.tup [.c (.slice p1 0 A.length 1),.c (.slice p2 0 B.length 1),.c (.int .i64 0)]) h'/\(h.next<=p1/\p1<h'.next)/\(h.next<=p2/\p2<h'.next)/\h'.get p1=some (.row 1 (Qy A) false)/\h'.get p2=some (.row 1 (Qy B) false)/\∀ m,m<h.next->h'.get m=h.get m:=by
 obtain⟨nq,nx,n0⟩:=M.nx
 obtain⟨st,⟨kn,hs⟩,⟨dk,gl⟩,ht⟩:=M.cells
 unfold gdL gdD at gl
 have dm:(md != 0)=true:=Nu m0
 obtain⟨h1,p1,c3,a1,a2,a3,a4⟩:=sp1 h oM
 obtain⟨h2,p2,c6,b1,b2,b3,b4⟩:=sp2 h1 oM
 have g1:=(b4 p1 a2).trans a3
 obtain⟨v,h',cc,rfl,rfl⟩:∃ v h',Zb 24 [.c (.ptr (n+13) 0),.c (.str path),.c (.str other)] h v h'/\v=.tup [.c (.slice p1 0 A.length 1),.c (.slice p2 0 B.length 1),.c (.int .i64 0)]/\h'=h2:=by
  refine Yk Hh Tryz.f24 ?_
  have Jf:=G6 @Dv @f @hs @gl @dm
  iterate 9 (first|refine gZ Mw ?_|refine Zo Hh (EY Za (Zc2 Hh)) Mw ?_|apply gS)
  iterate 7 (first|refine gZ Mw ?_|refine Zo Hh (Zj Za c3) Mw ?_|apply gS)
  iterate 8 (first|refine gZ Mw ?_|refine Zo Hh (Zj Za c6) Mw ?_|apply gS)
  exact⟨_,_,Zf,rfl,rfl⟩
 exact⟨h',p1,p2,cc,⟨a1,oM⟩,⟨oM,b2⟩,g1,b3,fun m hm=>(b4 m oM).trans (a4 m hm)⟩
variable [Opn cr]
theorem Ya2 (m0:md≠0) (io:Zb0 32 iw) (M:HE n q 2 60 32 40 cr md chT [] V h) (T:TLs iw V N l) (l9:l<999) (hs:s∈Zkz) (s0:N s=0) {p12 p3 p11 p13:Nat} {r:List UInt8} (g12:h.get p12=some (.row 16 [Bz l] false)) (g3:h.get p3=some (.row 1 [[.ptr (n+13) 0]] false)) (g11:h.get p11=some (.row 3 [spC 1 r 2] false)) (g13:h.get p13=some (.row 3 [spC 1 s 0] false)) (b:∀ p,p=p12\/p=p3\/p=p11\/p=p13->p<h.next/\n+23<=p/\(p<q\/q+9<=p)) (ne:p3≠p12/\p11≠p12/\p13≠p12) :
  ∃ h' V',Zb 26 [.c (.ptr p12 0),.c (.ptr p3 0),.c (.ptr p11 0),.c (.ptr p13 0)] h (.w (.c (.int .i64 0))) h'/\HE n q 2 60 32 40 cr md chT [] V' h'/\TLs iw V' (upN N s 2) (l+1)/\h.next<=h'.next/\∀ m,m<h.next->(m<n+6\/n+23<=m)->(m<q\/q+9<=m)->m≠p12->h'.get m=h.get m:=by
 have b12:=b p12 (.inl rfl)
 have b3:=b p3 (.inr (.inl rfl))
 have b11:=b p11 (.inr (.inr (.inl rfl)))
 have b13:=b p13 (.inr (.inr (.inr rfl)))
 have r1:read1 16 [Bz l] 1=some (.int .i64 (l:Int)):=rfl
 have ws:Z0 16 [Bz l] 1 [.int .i64 ((l:Int)+1)]=some [Bz (l+1)]:=rfl
 have sl:(Bz (l+1)).length=16:=rfl
 have s2:read1 3 [spC 1 r 2] 2=some (.int .i64 2):=rfl
 have u0:read1 3 [spC 1 s 0] 0=some (.int .i64 1):=rfl
 have u1:read1 3 [spC 1 s 0] 1=some (.str s):=rfl
 obtain⟨hA,eA⟩:∃ hA,hA=h.put p12 (.row 16 [Bz (l+1)] false):=⟨_,rfl⟩
 have nA:hA.next=h.next:=by rw[eA,H.Zd]
 have kA:∀ m,m≠p12->hA.get m=h.get m:=fun m hm=>by rw[eA,Ze hm]
 have A12:hA.get p12=some (.row 16 [Bz (l+1)] false):=by rw[eA,Zy]
 have MA:=M.Z2n (h2:=hA) oM fun m hm=>kA m oM
 obtain⟨h1,V1,c2,M1,T1,k1⟩:=TLs.put Hh MA T (l':=l+1) oM
 obtain⟨h2,V2,c5,M2,T2,k2⟩:=TLs.add Hh m0 io M1 T1 hs s0
 have n1:=k1.1
 have n2:=k2.1
 have A3:=(kA p3 ne.1).trans g3
 have A11:=(kA p11 ne.2.1).trans g11
 have e3:=(k1.2 p3 oM (En (.inr b3.2.1) b3.2.2)).trans A3
 have e11:=(k1.2 p11 oM (En (.inr b11.2.1) b11.2.2)).trans A11
 have e13:=(k1.2 p13 oM (En (.inr b13.2.1) b13.2.2)).trans ((kA p13 ne.2.2).trans g13)
 obtain⟨Y,hY⟩:=xzE (Bz l)
 obtain⟨Z,hZ⟩:∃ Y,Bz (l+1)=Y:=⟨_,rfl⟩
 obtain⟨X1,hX1⟩:∃ Y,spC 1 r 2=Y:=⟨_,rfl⟩
 obtain⟨X2,hX2⟩:∃ Y,spC 1 s 0=Y:=⟨_,rfl⟩
 rw[hY] at g12 r1 ws
 rw[hZ] at ws sl eA A12 c2
 rw[hX1] at s2 A11 e11
 rw[hX2] at u0 u1 e13
 obtain⟨v,h',cc,rfl,rfl⟩:∃ v h',Zb 26 [.c (.ptr p12 0),.c (.ptr p3 0),.c (.ptr p11 0),.c (.ptr p13 0)] h v h'/\v=.w (.c (.int .i64 0))/\h'=h2:=by
  refine Yk Hh Tryz.f26 ?_
  have Jf:=Nl @Dv @g12 @r1 @ws @sl @s2 @u0 @u1
  iterate 6 (first|refine Zo Hh Za Zr ?_|apply gS)
  rw[<-eA]
  have Jf:=Lc Jf @A3 @A11 @A12 @e3 @e11 @e13
  iterate 6 (first|refine gZ Zr ?_|refine Zo Hh (Zj Za c2) Zr ?_|apply gS)
  iterate 2 (first|refine Zo Hh (Zj Za c5) Zr ?_|apply gS)
  exact⟨_,_,Zf,rfl,rfl⟩
 exact⟨h',V2,cc,M2,T2,oM,fun m hm o1 o2 hne=>(k2.2 m oM (En o1 o2)).trans ((k1.2 m oM (En o1 o2)).trans (kA m hne))⟩
end
section
variable (Hh:Hearts K Tryz.prog)
include Hh
variable {n q:Nat} {md:Int} {iw:Nat->Nat × Nat} {V:Nat->Lq} {N:List UInt8->Nat} {h:Hq} {l:Nat} {s:List UInt8}
theorem Z8l (m0:md≠0) (io:Zb0 32 iw) {ch:Lq} (M:HE n q 2 60 32 40 (Cr.cl ch) md [] [] V h) (hch:∀ k∈ch,k∈chT) (n23:n+23<=h.next) (T:TLs iw V N l) (l9:l<999) (hs:s∈Zkz) (s0:N s=0) (Nf:N first5=2) (sp1:Splits (47 :: first5) [first5]) (sp2:Splits (47 :: s) [s]) :
  ∃ h' q' V',Zb 9 [.c (.ptr (n+13) 0),.c (.str (47 :: first5)),.c (.str (47 :: s))] h (.tup [.c (.int .i64 2),.c (.int .i64 0)]) h'/\HE n q' 2 60 32 40 (Cr.cl chT) md [] [] V' h'/\TLs iw V' (upN N s 2) (l+1)/\(h.next<=h'.next/\h.next<=q'+5)/\∀ m,m<h.next->(m<n+6\/n+23<=m)->h'.get m=h.get m:=by
 have f:=Qk
 have nx:=M.nx
 have lf:=Z2r (k:=1) oM
 have ld1:=fun {S T':Lq} {q:Nat} {cr:Cr}=>T.leads (n:=n) (q:=q) (cr:=cr) (md:=md) Hh m0 (S:=S) (T':=T') (s:=first5) dM
 rw[Nf] at ld1
 have ld2:=fun {S T':Lq} {q:Nat} {cr:Cr}=>T.leads (n:=n) (q:=q) (cr:=cr) (md:=md) Hh m0 (S:=S) (T':=T') (s:=s) hs
 rw[s0] at ld2
 have y0:read1 16 [Bz l] 0=some (.int .u8 1):=rfl
 have y1:read1 16 [Bz l] 1=some (.int .i64 (l:Int)):=rfl
 have yl:(Bz l).length=16:=rfl
 have dl:decide ((l:Int) >= 1000)=false:=decide_eq_false oM
 have x2:read1 3 [spC 1 first5 2] 2=some (.int .i64 2):=rfl
 have xl1:(spC 1 first5 2).length=3:=rfl
 have xl2:(spC 1 s 0).length=3:=rfl
 obtain⟨path,hpath⟩:∃ p:List UInt8,47 :: first5=p:=⟨_,rfl⟩
 obtain⟨other,hother⟩:∃ p:List UInt8,47 :: s=p:=⟨_,rfl⟩
 rw[hpath] at sp1 ⊢
 rw[hother] at sp2 ⊢
 obtain⟨v,h',cc,rfl,q',V',M',T',nn,kk⟩:∃ v h',Zb 9 [.c (.ptr (n+13) 0),.c (.str path),.c (.str other)] h v h'/\v=.tup [.c (.int .i64 2),.c (.int .i64 0)]/\∃ q' V',HE n q' 2 60 32 40 (Cr.cl chT) md [] [] V' h'/\TLs iw V' (upN N s 2) (l+1)/\(h.next<=h'.next/\h.next<=q'+5)/\∀ m,m<h.next->(m<n+6\/n+23<=m)->h'.get m=h.get m:=by
  refine Yk Hh Tryz.f9 ?_
  have Jf:=Yu @Dv @lf @y0 @y1 @yl @dl @x2 @xl1 @xl2
  iterate 3 (first|refine Zo Hh Za Gt ?_|apply gS)
  refine Jo fun hA eA=>?_
  have nA:hA.next=h.next+1:=nxQ eA
  have kA:∀ m,m<h.next->hA.get m=h.get m:=kQ eA
  have a3:hA.get h.next=some (.row 1 [[.ptr (n+13) 0]] false):=by rw[eA]; exact Yn
  clear eA
  have MA:=M.keep (h2:=hA) oM fun m hm=>kA m oM
  obtain⟨h1,p1,p2,c1,b1,b2,g1,g2,k1⟩:=Z8k Hh f m0 MA sp1 sp2
  have c1:Zb 24 [.c (.ptr (n+13) 0),.c (.str path),.c (.str other)] hA (.tup [.c (.slice p1 0 1 1),.c (.slice p2 0 1 1),.c (.int .i64 0)]) h1:=c1
  have M1:=MA.keep (h2:=h1) oM fun m hm=>k1 m oM
  have a31:=(k1 h.next oM).trans a3
  obtain⟨h2,c6,M2,k2⟩:=Zr7 Hh (A:=[first5]) (k:=0) (z:=fun _=>1) (w:=2) f M1 g1 ⟨oM,oM⟩ rfl oM rfl (fun j s hj=>absurd hj oM) rfl ld1 oM T.fi yl
  have c6:Zb 25 [.c (.ptr (n+13) 0),.c (.slice p1 0 1 1)] h1 (.tup [.g (spC 1 first5 2),.g (Bz l),.c (.int .i64 0)]) h2:=c6
  have n2:=k2.1
  have a32:=(k2.2 h.next oM oM).trans a31
  have g22:=(k2.2 p2 oM oM).trans g2
  obtain⟨Y,hY⟩:=xzE (Bz l)
  obtain⟨X1,hX1⟩:∃ Y,spC 1 first5 2=Y:=⟨_,rfl⟩
  rw[hY] at c6 y0 y1 yl
  rw[hX1] at c6 x2 xl1
  have Jf:=J6 @Dv @lf @y0 (Yu @y1 @yl @dl @x2 @xl1 @xl2 @a3 @a31 @a32)
  iterate 12 (first|refine gZ Gt ?_|refine Zo Hh (Zj Za c1) Gt ?_|apply gS)
  iterate 17 (first|refine gZ Gt ?_|refine Zo Hh (Zj Za c6) Gt ?_|apply gS)
  refine Jo fun hC eC=>?_
  have nC:hC.next=h2.next+2:=nxQ eC
  have kC:∀ m,m<h2.next->hC.get m=h2.get m:=kQ eC
  have C11:hC.get h2.next=some (.row 3 [X1] false):=by rw[eC]; exact Zr
  have C12:hC.get (h2.next+1)=some (.row 16 [Y] false):=by rw[eC]; exact Zr
  clear eC
  have MC:=M2.keep (h2:=hC) oM fun m hm=>kC m (by have:=M2.nx; omega)
  obtain⟨h3,c13,M3,k3⟩:=Z32 Hh (A:=[s]) (k:=0) (z:=fun _=>1) MC ((kC p2 oM).trans g22) ⟨oM,oM⟩ rfl oM rfl (fun j s hj=>absurd hj oM) rfl ld2
  have c13:Zb 19 [.c (.ptr (n+13) 0),.c (.slice p2 0 1 1)] hC (.tup [.g (spC 1 s 0),.c (.int .i64 0)]) h3:=c13
  obtain⟨X2,hX2⟩:∃ Y,spC 1 s 0=Y:=⟨_,rfl⟩
  rw[hX2] at c13 xl2
  have n3:=k3.1
  have a3C:=(kC h.next oM).trans a32
  have a33:=(k3.2 h.next oM oM).trans a3C
  have D11:=(k3.2 h2.next oM oM).trans C11
  have D12:=(k3.2 (h2.next+1) oM oM).trans C12
  have Jf:=Nl @Dv @lf @y0 @y1 @yl @dl @x2 (Yu @xl1 @xl2 @a3 @a31 @a32 @a3C @a33 @D11 @D12)
  iterate 7 (first|refine gZ Gt ?_|refine Zo Hh (Zj Za c13) Gt ?_|apply gS)
  refine Jo fun hD eD=>?_
  have nD:hD.next=h3.next+1:=nxQ eD
  have kD:∀ m,m<h3.next->hD.get m=h3.get m:=kQ eD
  have E13:hD.get h3.next=some (.row 3 [X2] false):=by rw[eD]; exact Zr
  clear eD
  have MD:=M3.keep (h2:=hD) oM fun m hm=>kD m (by have:=M3.nx; omega)
  have E3:=(kD h.next oM).trans a33
  have E11:=(kD h2.next oM).trans D11
  have E12:=(kD (h2.next+1) oM).trans D12
  obtain⟨h4,h5,q',V',c16,M5,⟨T5,r5⟩,nn5,k5⟩:=Zfx Hh f (R:=fun V' h4=>TLs iw V' (upN N s 2) (l+1)/\hD.next<=h4.next/\∀ m,m<hD.next->(m<n+6\/n+23<=m)->m≠h2.next+1->h4.get m=hD.get m) MD oM hch Yag dM oM (F:=26) (first:=[]) (caps:=[some (h2.next+1,0),some (h.next,0),some (h2.next,0),some (h3.next,0)]) (fun u1 Mu nu ku=>by
   subst hY; subst hX1; subst hX2
   obtain⟨u2,V2,cc,Mv,Tv,nv,kv⟩:=Ya2 Hh m0 io Mu T l9 hs s0 (p12:=h2.next+1) (p3:=h.next) (p11:=h2.next) (p13:=h3.next) ((ku _ oM oM).trans E12) ((ku _ oM oM).trans E3) ((ku _ oM oM).trans E11) ((ku _ oM oM).trans E13) (by rintro p (rfl|rfl|rfl|rfl)<;>omega) ⟨oM,oM,oM⟩
   exact⟨u2,V2,cc,Mv,nv,⟨kv _ oM oM oM oM,kv _ oM oM oM oM⟩,Tv,oM,fun m hm ho hne=>(kv m oM ho oM hne).trans (ku m hm ho)⟩)
  have F11:=(k5 h2.next oM oM oM).trans ((r5.2 h2.next oM oM oM).trans E11)
  have Jf:=Ja @Dv @lf (Yu @y0 @y1 @yl @dl @x2 @xl1 @xl2 @a3 (Yu @a31 @a32 @a3C @a33 @D11 @D12 @E3 @E11 @F11))
  iterate 9 (first|refine gZ Gt ?_|refine Zo Hh (Zj Za c16) Gt ?_|apply gS)
  refine⟨_,_,Yn,rfl,q',V',M5,T5,⟨oM,oM⟩,fun m hm ho=>?_⟩
  rw[k5 m oM ho oM,r5.2 m oM ho oM,kD m oM,k3.2 m oM oM,kC m oM,k2.2 m oM oM,k1 m oM,kA m hm]
 exact⟨h',q',V',cc,M',T',nn,kk⟩
end
def q10 (p:Lq):Code:=piece p (J7 Tryz.f10)
theorem rs10:Tryz.f10.results.toList=[.tmp 4,.cell 5 4,.tmp 6]:=rfl
theorem rs28:Tryz.f28.results.toList=[.tmp 3]:=rfl
theorem rs30:Tryz.f30.results.toList=[.tmp 4,.tmp 5]:=rfl
attribute [go_sem] rs10 rs28 rs30
section
variable (Hh:Hearts K Tryz.prog)
include Hh
variable {n q:Nat} {cr:Cr} {md:Int} {iw:Nat->Nat × Nat} {V:Nat->Lq} {N:List UInt8->Nat} {h:Hq} {l:Nat} {s:List UInt8}
def Zxn (iw:Nat->Nat × Nat) (N:List UInt8->Nat) (l:Nat) (V:Nat->Lq):Prop:=l=0\/TLs iw V N l
section
variable [Opn cr]
theorem Ya3 (m0:md≠0) (M:HE n q 2 60 32 40 cr md chT [] V h) (T:TLs iw V N (l+1)) (l9:l<999) :
  ∃ h' V',Zb 30 [.c (.ptr (n+13) 0),.c (.int .i64 2)] h (.tup [.c (.bool (decide (l=0))),.c (.int .i64 0)]) h'/\HE n q 2 60 32 40 cr md chT [] V' h'/\Zxn iw N l V'/\Kp n q h h':=by
 obtain⟨nq,nx,n0⟩:=M.nx
 obtain⟨hG,c1,MG,rG⟩:=Zi8 Hh Qk M (2:Int)
 rw[T.fi] at c1
 have nG:=rG.1
 have il:(Bz (l+1)).length=16:=rfl
 have il2:(Bz l).length=16:=rfl
 have r1:read1 16 [Bz (l+1)] 1=some (.int .i64 ((l:Int)+1)):=rfl
 have r2:read1 16 [Bz l] 1=some (.int .i64 (l:Int)):=rfl
 have ws:Z0 16 [Bz (l+1)] 1 [.int .i64 (l:Int)]=some [Bz l]:=rfl
 have a1:(l:Int)+1 - 1=(l:Int):=oM
 have hPut:=fun {h:Hq} (M:HE n q 2 60 32 40 cr md chT [] V h)=>TLs.put Hh M T (l':=l) oM
 obtain⟨Y,hY⟩:=xzE (Bz (l+1))
 obtain⟨Z,hZ⟩:∃ Y,Bz l=Y:=⟨_,rfl⟩
 rw[hY] at c1 il r1 ws
 rw[hZ] at il2 r2 ws
 simp only[hZ] at hPut
 obtain⟨v,h',cc,V',rfl,M',L',kk⟩:∃ v h',Zb 30 [.c (.ptr (n+13) 0),.c (.int .i64 2)] h v h'/\∃ V',v=.tup [.c (.bool (decide (l=0))),.c (.int .i64 0)]/\HE n q 2 60 32 40 cr md chT [] V' h'/\Zxn iw N l V'/\Kp n q h h':=by
  by_cases l0:l=0
  ·have d0:decide ((l:Int) > 0)=false:=decide_eq_false oM
   rw[decide_eq_true l0]
   refine Yk Hh Tryz.f30 ?_
   have Jf:=Nl @Dv @il @il2 @r1 @r2 @ws @a1 @d0
   iterate 3 (first|refine Zo Hh Za Zr ?_|apply gS)
   iterate 10 (first|refine gZ Zr ?_|refine Zo Hh (Zj Za c1) Zr ?_|apply gS)
   refine Jo fun hA eA=>?_
   have nA:hA.next=hG.next+1:=nxQ eA
   have kA:∀ p,p<hG.next->hA.get p=hG.get p:=kQ eA
   have gA:hA.get hG.next=some (.row 16 [Z] false):=by rw[eA]; exact Zr
   clear eA
   have MA:=MG.keep (h2:=hA) oM (fun m hm=>kA m (by have:=MG.nx; omega))
   obtain⟨hD,V1,c5,M1,T1,k1⟩:=hPut MA
   have n1:=k1.1
   have gD:=(k1.2 hG.next oM ⟨⟨oM,oM,oM,oM,oM⟩,oM⟩).trans gA
   have T0:=T1
   rw[l0] at T0
   obtain⟨hE,V2,c10,M2,k2⟩:=Ydw Hh m0 M1 T0
   have n2:=k2.1
   have Jf:=Ja Jf @gA @gD
   iterate 11 (first|refine gZ Zr ?_|refine Zo Hh (Zj Za c5) Zr ?_|apply gS)
   iterate 2 (first|refine Zo Hh (Zj Za c10) Zr ?_|apply gS)
   exact⟨_,_,Zf,_,rfl,M2,.inl l0,⟨oM,fun p hp ho=>(k2.2 p oM ho).trans ((k1.2 p oM ho).trans ((kA p oM).trans (rG.2 p hp ho.1.1)))⟩⟩
  ·have d0:decide ((l:Int) > 0)=true:=decide_eq_true oM
   rw[decide_eq_false l0]
   refine Yk Hh Tryz.f30 ?_
   have Jf:=Nl @Dv @il @il2 @r1 @r2 @ws @a1 @d0
   iterate 3 (first|refine Zo Hh Za Zr ?_|apply gS)
   iterate 10 (first|refine gZ Zr ?_|refine Zo Hh (Zj Za c1) Zr ?_|apply gS)
   refine Jo fun hA eA=>?_
   have nA:hA.next=hG.next+1:=nxQ eA
   have kA:∀ p,p<hG.next->hA.get p=hG.get p:=kQ eA
   have gA:hA.get hG.next=some (.row 16 [Z] false):=by rw[eA]; exact Zr
   clear eA
   have MA:=MG.keep (h2:=hA) oM (fun m hm=>kA m (by have:=MG.nx; omega))
   obtain⟨hD,V1,c5,M1,T1,k1⟩:=hPut MA
   have n1:=k1.1
   have gD:=(k1.2 hG.next oM ⟨⟨oM,oM,oM,oM,oM⟩,oM⟩).trans gA
   have Jf:=Ja Jf @gA @gD
   iterate 12 (first|refine gZ Zr ?_|refine Zo Hh (Zj Za c5) Zr ?_|apply gS)
   exact⟨_,_,Zf,_,rfl,M1,.inr T1,⟨oM,fun p hp ho=>(k1.2 p oM ho).trans ((kA p oM).trans (rG.2 p hp ho.1.1))⟩⟩
 exact⟨h',V',cc,M',L',kk⟩
theorem Yb3 (m0:md≠0) (io:Zb0 32 iw) (M:HE n q 2 60 32 40 cr md chT [] V h) (T:TLs iw V N (l+1)) (l9:l<999) (s0:N s=2) {p2 p8 p5:Nat} {z5:C} (g2:h.get p2=some (.row 1 [[.ptr (n+13) 0]] false)) (g8:h.get p8=some (.row 3 [spC 1 s 2] false)) (g5:h.get p5=some (.row 1 [[z5]] false)) (b:∀ p,p=p2\/p=p8\/p=p5->p<h.next/\n+23<=p/\(p<q\/q+9<=p)) :
  ∃ h' V',Zb 28 [.c (.ptr p2 0),.c (.ptr p8 0),.c (.ptr p5 0)] h (.w (.c (.int .i64 0))) h'/\HE n q 2 60 32 40 cr md chT [] V' h'/\Zxn iw (upN N s 0) l V'/\h'.get p5=some (.row 1 [[.bool (decide (l=0))]] false)/\h.next<=h'.next/\∀ m,m<h.next->(m<n+6\/n+23<=m)->(m<q\/q+9<=m)->m≠p5->h'.get m=h.get m:=by
 have b2:=b p2 (.inl rfl)
 have b8:=b p8 (.inr (.inl rfl))
 have b5:=b p5 (.inr (.inr rfl))
 obtain⟨h1,V1,c1,M1,T1,k1⟩:=TLs.rem Hh (s:=s) m0 io M T oM
 obtain⟨h2,V2,c4,M2,T2,k2⟩:=Ya3 Hh m0 M1 T1 l9
 have n1:=k1.1
 have n2:=k2.1
 have e2:=(k1.2 p2 oM (En (.inr b2.2.1) b2.2.2)).trans g2
 have e8:=(k1.2 p8 oM (En (.inr b8.2.1) b8.2.2)).trans g8
 have e5:=(k2.2 p5 oM (En (.inr b5.2.1) b5.2.2)).trans ((k1.2 p5 oM (En (.inr b5.2.1) b5.2.2)).trans g5)
 have s2:read1 3 [spC 1 s 2] 2=some (.int .i64 2):=rfl
 have u0:read1 3 [spC 1 s 2] 0=some (.int .i64 1):=rfl
 have u1:read1 3 [spC 1 s 2] 1=some (.str s):=rfl
 obtain⟨X1,hX1⟩:∃ Y,spC 1 s 2=Y:=⟨_,rfl⟩
 rw[hX1] at s2 u0 u1 g8 e8
 obtain⟨bo,hbo⟩:=xzE (decide (l=0))
 rw[hbo] at c4 ⊢
 obtain⟨v,h',cc,rfl,rfl⟩:∃ v h',Zb 28 [.c (.ptr p2 0),.c (.ptr p8 0),.c (.ptr p5 0)] h v h'/\v=.w (.c (.int .i64 0))/\h'=h2.put p5 (.row 1 [[.bool bo]] false):=by
  refine Yk Hh Tryz.f28 ?_
  have Jf:=Yu @Dv @g2 @g8 @s2 @u0 @u1 @e2 @e8 @e5
  iterate 4 (first|refine Zo Hh Za Zr ?_|apply gS)
  iterate 6 (first|refine gZ Zr ?_|refine Zo Hh (Zj Za c1) Zr ?_|apply gS)
  iterate 4 (first|refine Zo Hh (Zj Za c4) Zr ?_|apply gS)
  exact⟨_,_,Zf,rfl,rfl⟩
 exact⟨_,V2,cc,M2.Z2n (by rw[H.Zd]; omega) (fun m hm=>Ze oM),T2,Zy ..,by rw[H.Zd]; omega,fun m hm o1 o2 hne=>by rw[Ze hne,k2.2 m oM (En o1 o2),k1.2 m oM (En o1 o2)]⟩
end
theorem Zfy (m0:md≠0) (io:Zb0 32 iw) {ch:Lq} (M:HE n q 2 60 32 40 (Cr.cl ch) md [] [] V h) (hch:∀ k∈ch,k∈chT) (n23:n+23<=h.next) (T:TLs iw V N (l+1)) (l9:l<999) (hs:s∈Zkz) (s0:N s=2) (sp:Splits (47 :: s) [s]) :
  ∃ h' q' V',Zb 10 [.c (.ptr (n+13) 0),.c (.str (47 :: s))] h (.tup [.c (.int .i64 2),.c (.bool (decide (l=0))),.c (.int .i64 0)]) h'/\HE n q' 2 60 32 40 (Cr.cl chT) md [] [] V' h'/\Zxn iw (upN N s 0) l V'/\(h.next<=h'.next/\h.next<=q'+5)/\∀ m,m<h.next->(m<n+6\/n+23<=m)->h'.get m=h.get m:=by
 have f:=Qk
 obtain⟨nq,nx,n0⟩:=M.nx
 obtain⟨st,⟨kn,hs0⟩,⟨dk,gl⟩,ht⟩:=M.cells
 unfold gdL gdD at gl
 have dm:(md != 0)=true:=Nu m0
 have lf:=Z2r (k:=1) oM
 have ld1:=fun {S T':Lq} {q:Nat} {cr:Cr}=>T.leads (n:=n) (q:=q) (cr:=cr) (md:=md) Hh m0 (S:=S) (T':=T') (s:=s) hs
 rw[s0] at ld1
 have y0:read1 16 [Bz (l+1)] 0=some (.int .u8 1):=rfl
 have yl:(Bz (l+1)).length=16:=rfl
 have x2:read1 3 [spC 1 s 2] 2=some (.int .i64 2):=rfl
 have xl1:(spC 1 s 2).length=3:=rfl
 obtain⟨path,hpath⟩:∃ p:List UInt8,47 :: s=p:=⟨_,rfl⟩
 rw[hpath] at sp ⊢
 obtain⟨v,h',cc,rfl,q',V',M',T',nn,kk⟩:∃ v h',Zb 10 [.c (.ptr (n+13) 0),.c (.str path)] h v h'/\v=.tup [.c (.int .i64 2),.c (.bool (decide (l=0))),.c (.int .i64 0)]/\∃ q' V',HE n q' 2 60 32 40 (Cr.cl chT) md [] [] V' h'/\Zxn iw (upN N s 0) l V'/\(h.next<=h'.next/\h.next<=q'+5)/\∀ m,m<h.next->(m<n+6\/n+23<=m)->h'.get m=h.get m:=by
  refine Yk Hh Tryz.f10 ?_
  have Jf:=Yy @Dv (Yu @f @hs0 @gl @dm @lf @y0 @yl @x2 @xl1)
  iterate 8 (first|refine gZ Oz ?_|refine Zo Hh (EY Za (Zc2 Hh)) Oz ?_|apply gS)
  refine Jo fun hA eA=>?_
  have nA:hA.next=h.next+2:=nxQ eA
  have kA:∀ m,m<h.next->hA.get m=h.get m:=kQ eA
  have a2:hA.get h.next=some (.row 1 [[.ptr (n+13) 0]] false):=by rw[eA]; exact Yn
  have a5:hA.get (h.next+1)=some (.row 1 [[.bool false]] false):=by rw[eA]; exact Yn
  clear eA
  have MA:=M.keep (h2:=hA) oM fun m hm=>kA m oM
  obtain⟨h1,p1,c3,b1,b2,g1,k1⟩:=sp hA oM
  have c3:Zb 18 [.c (.str path)] hA (.tup [.c (.slice p1 0 1 1),.c (.int .i64 0)]) h1:=c3
  have M1:=MA.keep (h2:=h1) oM fun m hm=>k1 m oM
  have a21:=(k1 h.next oM).trans a2
  have a51:=(k1 (h.next+1) oM).trans a5
  obtain⟨h2,c8,M2,k2⟩:=Zr7 Hh (A:=[s]) (k:=0) (z:=fun _=>1) (w:=2) f M1 g1 ⟨oM,oM⟩ rfl oM rfl (fun j s hj=>absurd hj oM) rfl ld1 oM T.fi yl
  have c8:Zb 25 [.c (.ptr (n+13) 0),.c (.slice p1 0 1 1)] h1 (.tup [.g (spC 1 s 2),.g (Bz (l+1)),.c (.int .i64 0)]) h2:=c8
  have n2:=k2.1
  have a22:=(k2.2 h.next oM oM).trans a21
  have a52:=(k2.2 (h.next+1) oM oM).trans a51
  obtain⟨Y,hY⟩:=xzE (Bz (l+1))
  obtain⟨X1,hX1⟩:∃ Y,spC 1 s 2=Y:=⟨_,rfl⟩
  rw[hY] at c8 y0 yl
  rw[hX1] at c8 x2 xl1
  have Jf:=G6 @Dv @f @hs0 @gl (Yu @dm @lf @y0 @yl @x2 @xl1 @a2 @a21 @a22)
  iterate 12 (first|refine gZ Oz ?_|refine Zo Hh (Zj Za c3) Oz ?_|apply gS)
  iterate 12 (first|refine gZ Oz ?_|refine Zo Hh (Zj Za c8) Oz ?_|apply gS)
  refine Jo fun hC eC=>?_
  have nC:hC.next=h2.next+2:=nxQ eC
  have kC:∀ m,m<h2.next->hC.get m=h2.get m:=kQ eC
  have C8:hC.get h2.next=some (.row 3 [X1] false):=by rw[eC]; exact Zr
  clear eC
  have MC:=M2.keep (h2:=hC) oM fun m hm=>kC m (by have:=M2.nx; omega)
  have C2:=(kC h.next oM).trans a22
  have C5:=(kC (h.next+1) oM).trans a52
  obtain⟨bo,hbo⟩:=xzE (decide (l=0))
  obtain⟨h4,h5,q',V',c13,M5,⟨T5,r5,n5,u5⟩,nn5,k5⟩:=Zfx Hh f (R:=fun V' h4=>Zxn iw (upN N s 0) l V'/\h4.get (h.next+1)=some (.row 1 [[.bool bo]] false)/\hC.next<=h4.next/\∀ m,m<hC.next->(m<n+6\/n+23<=m)->m≠h.next+1->h4.get m=hC.get m) MC oM hch Yag dM oM (F:=28) (first:=[]) (caps:=[some (h.next,0),some (h2.next,0),some (h.next+1,0)]) (fun u1 Mu nu ku=>by
   subst hX1
   obtain⟨u2,V2,cc,Mv,Tv,v5,nv,kv⟩:=Yb3 Hh m0 io Mu T l9 s0 (p2:=h.next) (p8:=h2.next) (p5:=h.next+1) ((ku _ oM oM).trans C2) ((ku _ oM oM).trans C8) ((ku _ oM oM).trans C5) (by rintro p (rfl|rfl|rfl)<;>omega)
   rw[hbo] at v5
   exact⟨u2,V2,cc,Mv,nv,⟨kv _ oM oM oM oM,kv _ oM oM oM oM⟩,Tv,v5,oM,fun m hm ho hne=>(kv m oM ho oM hne).trans (ku m hm ho)⟩)
  have F8:=(k5 h2.next oM oM oM).trans ((u5 h2.next oM oM oM).trans C8)
  have F5:=(k5 (h.next+1) oM oM oM).trans r5
  rw[hbo]
  have Jf:=Nl @Dv @f @hs0 @gl @dm @lf @y0 (Yu @yl @x2 @xl1 @a2 @a21 @a22 @C2 @F8 @F5)
  iterate 9 (first|refine gZ Oz ?_|refine Zo Hh (Zj Za c13) Oz ?_|refine F7 Hh (Zj Za c13) Z00 ?_|apply gS)
  refine⟨_,_,Yn,rfl,q',V',M5.Zwx ?_ (fun m hm=>?_),T5,⟨?_,oM⟩,fun m hm ho=>?_⟩
  ·simp only[H.Zd]; omega
  ·exact Ze oM
  ·simp only[H.Zd]; omega
  ·rw[Ze oM,k5 m oM ho oM,u5 m oM ho oM,kC m oM,k2.2 m oM oM,k1 m oM,kA m hm]
 exact⟨h',q',V',cc,M',T',nn,kk⟩
end
def q7 (p:Lq):Code:=piece p (J7 Tryz.f7)
theorem rs7:Tryz.f7.results.toList=[.tmp 6,.tmp 7]:=rfl
theorem rs21:Tryz.f21.results.toList=[.tmp 4]:=rfl
attribute [go_sem] rs7 rs21
section
variable (Hh:Hearts K Tryz.prog)
include Hh
variable {n q:Nat} {cr:Cr} {md:Int} {V:Nat->Lq} {h:Hq} {s:List UInt8} {u w:Nat} {kq:Int} {R:(Nat->Lq)->Prop}
def Z0h (n:Nat) (md:Int) (V:Nat->Lq) (kq:Int) (u:Nat) (s:List UInt8) (w:Nat) (R:(Nat->Lq)->Prop):Prop:=∀ {q:Nat} {cr:Cr} [Opn cr] {h:Hq},HE n q 2 60 32 40 cr md chT [] V h->∃ h1 V1,Zb 22 [.c (.ptr (n+13) 0),.c (.int .u8 kq),.c (.int .i64 (u:Int))] h (.tup [.c (.int .i64 (w:Int)),.c (.int .i64 0)]) h1/\HE n q 2 60 32 40 cr md chT [] V1 h1/\Kp n q h h1/\∀ {h1:Hq},HE n q 2 60 32 40 cr md chT [] V1 h1->∃ h2 V2,Zb 23 [.c (.ptr (n+13) 0),.c (.int .i64 (u:Int)),.c (.str s),.c (.int .i64 (w:Int))] h1 (.w (.c (.int .i64 0))) h2/\HE n q 2 60 32 40 cr md chT [] V2 h2/\R V2/\Kp n q h1 h2
theorem Ya7 [Opn cr] (M:HE n q 2 60 32 40 cr md chT [] V h) (tk:Z0h n md V kq u s w R) {p3 p5 p10 p11:Nat} {z11:C} (g3:h.get p3=some (.row 1 [[.ptr (n+13) 0]] false)) (g5:h.get p5=some (.row 1 [[.int .u8 kq]] false)) (g10:h.get p10=some (.row 3 [spC u s 0] false)) (g11:h.get p11=some (.row 1 [[z11]] false)) (b:∀ p,p=p3\/p=p5\/p=p10\/p=p11->p<h.next/\n+23<=p/\(p<q\/q+9<=p)) (ne:p3≠p11/\p10≠p11) :
  ∃ h' V',Zb 21 [.c (.ptr p3 0),.c (.ptr p5 0),.c (.ptr p10 0),.c (.ptr p11 0)] h (.w (.c (.int .i64 0))) h'/\HE n q 2 60 32 40 cr md chT [] V' h'/\R V'/\h'.get p11=some (.row 1 [[.int .i64 (w:Int)]] false)/\h.next<=h'.next/\∀ m,m<h.next->(m<n+6\/n+23<=m)->(m<q\/q+9<=m)->m≠p11->h'.get m=h.get m:=by
 have b3:=b p3 (.inl rfl)
 have b5:=b p5 (.inr (.inl rfl))
 have b10:=b p10 (.inr (.inr (.inl rfl)))
 have b11:=b p11 (.inr (.inr (.inr rfl)))
 obtain⟨h1,V1,c1,M1,k1,ad⟩:=tk M
 have n1:=k1.1
 have e3:=(k1.2 p3 oM (En (.inr b3.2.1) b3.2.2)).trans g3
 have e10:=(k1.2 p10 oM (En (.inr b10.2.1) b10.2.2)).trans g10
 have e11:=(k1.2 p11 oM (En (.inr b11.2.1) b11.2.2)).trans g11
 obtain⟨hA,eA⟩:∃ hA,hA=h1.put p11 (.row 1 [[.int .i64 (w:Int)]] false):=⟨_,rfl⟩
 have nA:hA.next=h1.next:=by rw[eA,H.Zd]
 have kA:∀ m,m≠p11->hA.get m=h1.get m:=fun m hm=>by rw[eA,Ze hm]
 have A11:hA.get p11=some (.row 1 [[.int .i64 (w:Int)]] false):=by rw[eA,Zy]
 have A3:=(kA p3 ne.1).trans e3
 have A10:=(kA p10 ne.2).trans e10
 obtain⟨h2,V2,c4,M2,r,k2⟩:=ad (M1.Z2n (h2:=hA) oM fun m hm=>kA m oM)
 have n2:=k2.1
 have x0:read1 3 [spC u s 0] 0=some (.int .i64 (u:Int)):=rfl
 have x1:read1 3 [spC u s 0] 1=some (.str s):=rfl
 obtain⟨X,hX⟩:∃ Y,spC u s 0=Y:=⟨_,rfl⟩
 rw[hX] at x0 x1 g10 A10
 obtain⟨v,h',cc,rfl,rfl⟩:∃ v h',Zb 21 [.c (.ptr p3 0),.c (.ptr p5 0),.c (.ptr p10 0),.c (.ptr p11 0)] h v h'/\v=.w (.c (.int .i64 0))/\h'=h2:=by
  refine Yk Hh Tryz.f21 ?_
  have Jf:=Lc @Dv @g3 @g5 @g10 @x0 @x1 @e11
  iterate 4 (first|refine Zo Hh Za Zr ?_|apply gS)
  iterate 6 (first|refine gZ Zr ?_|refine Zo Hh (Zj Za c1) Zr ?_|apply gS)
  rw[<-eA]
  have Jf:=J6 Jf @A3 @A10 @A11
  iterate 2 (first|refine Zo Hh (Zj Za c4) Zr ?_|apply gS)
  exact⟨_,_,Zf,rfl,rfl⟩
 exact⟨h',V2,cc,M2,r,(k2.2 p11 oM (En (.inr b11.2.1) b11.2.2)).trans A11,oM,fun m hm o1 o2 hne=>(k2.2 m oM (En o1 o2)).trans ((kA m hne).trans (k1.2 m oM (En o1 o2)))⟩
theorem Z8n (m0:md≠0) (kk:kq=1\/kq=2) {ch:Lq} (M:HE n q 2 60 32 40 (Cr.cl ch) md [] [] V h) (hch:∀ k∈ch,k∈chT) (n23:n+23<=h.next) {path:List UInt8} {A:List (List UInt8)} {k:Nat} {z:Nat->Nat} (sp:Splits path A) (kA:A.length=k+1) (A4:k<=3) (z0:z 0=1) (st:∀ j s,j<k->A[j]? = some s->R8 n q 2 60 32 40 (Cr.cl ch) md [] [] V (z j) s (z (j+1)) 0) (hs:A[k]? = some s) (hz:z k=u) (ld:R8 n q 2 60 32 40 (Cr.cl ch) md [] [] V u s 0 301) (tk:Z0h n md V kq u s w R) :
  ∃ h' q' V',Zb 7 [.c (.ptr (n+13) 0),.c (.str path),.c (.int .u8 kq)] h (.tup [.c (.int .i64 (w:Int)),.c (.int .i64 0)]) h'/\HE n q' 2 60 32 40 (Cr.cl chT) md [] [] V' h'/\R V'/\(h.next<=h'.next/\h.next<=q'+5)/\∀ m,m<h.next->(m<n+6\/n+23<=m)->h'.get m=h.get m:=by
 have f:=Qk
 subst hz
 obtain⟨nq,nx,n0⟩:=M.nx
 obtain⟨st0,⟨kn,hs0⟩,⟨dk,gl⟩,ht⟩:=M.cells
 unfold gdL gdD at gl
 have dm:(md != 0)=true:=Nu m0
 have ek:(kq != 1&&kq != 2)=false:=by rcases kk with rfl|rfl<;>rfl
 have xl1:(spC (z k) s 0).length=3:=rfl
 obtain⟨v,h',cc,rfl,q',V',M',T',nn,kk⟩:∃ v h',Zb 7 [.c (.ptr (n+13) 0),.c (.str path),.c (.int .u8 kq)] h v h'/\v=.tup [.c (.int .i64 (w:Int)),.c (.int .i64 0)]/\∃ q' V',HE n q' 2 60 32 40 (Cr.cl chT) md [] [] V' h'/\R V'/\(h.next<=h'.next/\h.next<=q'+5)/\∀ m,m<h.next->(m<n+6\/n+23<=m)->h'.get m=h.get m:=by
  obtain⟨kv,hkv⟩:∃ kv,kv=kq:=⟨_,rfl⟩
  rcases kk with rfl|rfl
  all_goals
   refine Yk Hh Tryz.f7 ?_
   have Jf:=Nk @Dv @f @hs0 @gl @dm @xl1
   iterate 13 (first|refine gZ Yd ?_|refine Zo Hh (EY Za (Zc2 Hh)) Yd ?_|apply gS)
   refine Jo fun hA eA=>?_
   have nA:hA.next=h.next+2:=nxQ eA
   have kA':∀ m,m<h.next->hA.get m=h.get m:=fun m hm=>by rw[eA]; exact Ym
   have a3:hA.get h.next=some (.row 1 [[.ptr (n+13) 0]] false):=by rw[eA]; exact Yn
   have a5:hA.get (h.next+1)=some (.row 1 [[.int .u8 kv]] false):=by rw[eA,hkv]; exact Yn
   clear eA
   subst hkv
   have MA:=M.keep (h2:=hA) oM fun m hm=>kA' m oM
   obtain⟨h1,p1,c5,b1,b2,g1,k1⟩:=sp hA oM
   rw[kA] at c5
   have M1:=MA.keep (h2:=h1) oM fun m hm=>k1 m oM
   have a31:=(k1 h.next oM).trans a3
   have a51:=(k1 (h.next+1) oM).trans a5
   obtain⟨h2,c8,M2,k2⟩:=Z32 Hh (A:=A) (k:=k) (z:=z) M1 g1 ⟨oM,oM⟩ kA A4 z0 st hs ld
   have n2:=k2.1
   have a32:=(k2.2 h.next oM oM).trans a31
   have a52:=(k2.2 (h.next+1) oM oM).trans a51
   obtain⟨X1,hX1⟩:∃ Y,spC (z k) s 0=Y:=⟨_,rfl⟩
   rw[hX1] at c8 xl1
   have Jf:=Yu @Dv @f @hs0 @gl @dm @xl1 @a3 @a31 @a32
   iterate 7 (first|refine gZ Yd ?_|refine Zo Hh (Zj Za c5) Yd ?_|apply gS)
   iterate 9 (first|refine gZ Yd ?_|refine Zo Hh (Zj Za c8) Yd ?_|apply gS)
   refine Jo fun hC eC=>?_
   have nC:hC.next=h2.next+2:=nxQ eC
   have kC:∀ m,m<h2.next->hC.get m=h2.get m:=kQ eC
   have C10:hC.get h2.next=some (.row 3 [X1] false):=by rw[eC]; exact Zr
   have C11:hC.get (h2.next+1)=some (.row 1 [[.int .i64 0]] false):=by rw[eC]; exact Zr
   clear eC
   have MC:=M2.keep (h2:=hC) oM fun m hm=>kC m (by have:=M2.nx; omega)
   have C3:=(kC h.next oM).trans a32
   have C5:=(kC (h.next+1) oM).trans a52
   obtain⟨h4,h5,q',V',c12,M5,⟨T5,r5,n5,u5⟩,nn5,k5⟩:=Zfx Hh f (R:=fun V' h4=>R V'/\h4.get (h2.next+1)=some (.row 1 [[.int .i64 (w:Int)]] false)/\hC.next<=h4.next/\∀ m,m<hC.next->(m<n+6\/n+23<=m)->m≠h2.next+1->h4.get m=hC.get m) MC oM hch Yag dM oM (F:=21) (first:=[]) (caps:=[some (h.next,0),some (h.next+1,0),some (h2.next,0),some (h2.next+1,0)]) (fun u1 Mu nu ku=>by
    subst hX1
    obtain⟨u2,V2,cc,Mv,Tv,v5,nv,kv⟩:=Ya7 Hh Mu tk (p3:=h.next) (p5:=h.next+1) (p10:=h2.next) (p11:=h2.next+1) ((ku _ oM oM).trans C3) ((ku _ oM oM).trans C5) ((ku _ oM oM).trans C10) ((ku _ oM oM).trans C11) (by rintro p (rfl|rfl|rfl|rfl)<;>omega) ⟨oM,oM⟩
    exact⟨u2,V2,cc,Mv,nv,⟨kv _ oM oM oM oM,kv _ oM oM oM oM⟩,Tv,v5,oM,fun m hm ho hne=>(kv m oM ho oM hne).trans (ku m hm ho)⟩)
   have F11:=(k5 (h2.next+1) oM oM oM).trans r5
   have Jf:=Ja @Dv @f (Yu @hs0 @gl @dm @xl1 @a3 @a31 @a32 @C3 @F11)
   iterate 9 (first|refine gZ Yd ?_|refine Zo Hh (Zj Za c12) Yd ?_|apply gS)
   refine⟨_,_,Yn,rfl,q',V',M5,T5,⟨oM,oM⟩,fun m hm ho=>?_⟩
   rw[k5 m oM ho oM,u5 m oM ho oM,kC m oM,k2.2 m oM oM,k1 m oM,kA' m hm]
 exact⟨h',q',V',cc,M',T',nn,kk⟩
end
open Go.Ev Go.ChangeShapes Go.WideShapes
theorem Z4d (z:Int):Jk .u64 z=.int .u64 ((z % 18446744073709551616).toNat:Int):=by
 unfold Jk IntKind.wrap
 congr 1
 show (z % 18446744073709551616)=_
 have:=Int.emod_nonneg z (show (18446744073709551616:Int)≠0 by decide)
 omega
def Zei (A:List Int):List (List C):=A.map fun z=>[.int .i64 z]
theorem rdZ {A:List Int} {k:Nat} {z:Int} (h:A[k]? = some z):read1 1 (Zei A) k=some (.int .i64 z):=by
 have e:(Zei A)[k]? = some [.int .i64 z]:=by simp [Zei,h]
 have:=Dh (sz:=1) (i:=k) (j:=0) oM e
 rw[Nat.mul_one,Nat.add_zero] at this
 exact this
def ArI (n:Nat) (h:Hq) (c:C) (A:List Int):Prop:=(Y3 K 22 (.c c)=true/\∀ h,Jn K h 22 (.c c)=some (.int .i64 (A.length:Nat)))/\(A=[]\/∃ p ro,p<n/\c=.slice p 0 A.length 1/\h.get p=some (.row 1 (Zei A) ro))
theorem ArI.keep {n:Nat} {h h':Hq} {c:C} {A:List Int} (a:ArI n h c A) (k:∀ p,p<n->h'.get p=h.get p):ArI n h' c A :=
 ⟨a.1,a.2.imp id fun ⟨p,ro,h1,h2,h3⟩=>⟨p,ro,h1,h2,(k p h1).trans h3⟩⟩
def Znb (W:World) (v:Value):Prop:=v=.slice none 0 0\/∃ b o sp len cap,v=.slice (some ⟨b,o,sp⟩) len cap/\len<=cap/\(cap=0\/sp=none/\∃ cl t fr,W.heap[b]? = some (.cells cl t fr)/\o+cap<=cl.size/\∀ i,i<cap->∃ B:Int,cl[o+i]? = some (.int .i64 B))
theorem open_ints {H:Type} {enc:TypeId × Value->H} {W:World} {base b0:Nat} {r:Reach} {v:Value} {d:DataW H} {p:List MemPlace} (hv:Value.okWide Tryz.prog W r b0 22 v) (h:DataW.Trod enc Tryz.prog W base (fun _=>true) true 22 v d p) (hb:base=0):∃ w:Value,v=w/\Znb W w:=by
 subst hb
 refine⟨v,rfl,?_⟩
 obtain⟨sa,sl,sc,rfl⟩:=okWide_slice Tryz.underlying22 hv
 obtain⟨fuel,hf0⟩:=h
 have hf:DataW.trod enc Tryz.prog W 0 (fun _=>true) true fuel 22 [.slice sa sl sc]=_:=hf0
 rcases DataW.trod_slice Tryz.underlying22 hf with ⟨h0,_⟩|⟨⟨b,o,sp⟩,len,cap,elems,rest,n,rfl,h0,_,_,hl,_,hlen,hel,hsp,_⟩
 ·exact .inl (List.cons.inj h0).1
 have h1:=(List.cons.inj h0).1
 refine .inr ⟨b,o,sp,len,cap,h1,hl,?_⟩
 rcases Nat.eq_zero_or_pos cap with c0|c0
 ·exact .inl c0
 right
 have c2:Tryz.prog.cellsOf 3=1:=kR
 obtain⟨hrl,hr⟩:=hsp rfl
 rw[c2] at hel hr
 have each:∀ i,i<cap->∃ B:Int,W.cell? ((⟨b,o,sp⟩:Addr).add (i * 1))=some (.int .i64 B):=by
  intro i hi
  have key:∃ y,(W.cells? 0 ((⟨b,o,sp⟩:Addr).add (i * 1)) 1).bind (DataW.trod enc Tryz.prog W 0 (fun _=>true) true n 3)=some y:=by
   by_cases h1:i<len
   ·exact⟨_,(hel i h1).trans (lG oM)⟩
   ·have:=hr (i - len) oM
    rw[show len+(i - len)=i by omega] at this
    exact⟨_,this.trans (lG oM)⟩
  obtain⟨y,hy⟩:=key
  obtain⟨cs',h1,h2⟩:=Option.bind_eq_some_iff.1 hy
  obtain⟨hl2,hc⟩:=Zx8 h1
  match cs',hl2 with
  | [v0],_ =>
   obtain⟨B,e1,_,_⟩:=DataW.trod_int Tryz.underlying3 h2
   cases e1
   refine⟨B,?_⟩
   have:=hc 0 oM
   rw[show ((⟨b,o,sp⟩:Addr).add (i * 1)).add 0=(⟨b,o,sp⟩:Addr).add (i * 1) by unfold Addr.add; split<;>simp_all] at this
   exact this
 obtain⟨B0,q0⟩:=each 0 c0
 have hspot:sp=none:=by simpa [Addr.add] using World.cell?_spot q0
 subst hspot
 refine⟨rfl,?_⟩
 have at':∀ i,(⟨b,o,none⟩:Addr).add (i * 1)=⟨b,o+i * 1,none⟩:=fun i=>Go.WideShapes.add_plain b o (i * 1)
 rw[at' 0] at q0
 unfold World.cell? at q0
 split at q0
 ·rename_i cl t fr hb
  have hb':W.heap[b]? = some (.cells cl t fr):=hb
  have cell:∀ k,W.cell? ⟨b,k,none⟩=cl[k]?:=fun k=>by
   unfold World.cell?
   rw[show W.heap[(⟨b,k,none⟩:Addr).block]? = some (.cells cl t fr) from hb']
   rfl
  have each':∀ i,i<cap->∃ B:Int,cl[o+i]? = some (.int .i64 B):=fun i hi=>by
   obtain⟨B,e1⟩:=each i hi
   rw[at',cell,Nat.mul_one] at e1
   exact⟨B,e1⟩
  refine⟨cl,t,fr,hb',?_,each'⟩
  obtain⟨B,e2⟩:=each' (cap - 1) oM
  have:=(Array.getElem?_eq_some_iff.1 e2).1
  omega
 ·cases q0
def intOf (cl:Array Value) (o i:Nat):Int:=match cl[o+i]? with
 | some (.int .i64 B)=>B
 | _=>0
theorem Znb.ari {W:World} {v:Value} (k:Nat) (ok:Znb W v):∃ (c:C) (A:List Int) (a:Option (List Int)) (l:Go.Ev.Loc),(∀ ρ:Ren,ρ k=some l->Jw ρ (.c c) v)/\(∀ (ρ:Ren) A',a=some A'->Br ρ W (.row 1 (Zei A') true) l)/\(Y3 K 22 (.c c)=true/\∀ h,Jn K h 22 (.c c)=some (.int .i64 (A.length:Nat)))/\(A=[]\/c=.slice k 0 A.length 1/\a=some A):=by
 rcases ok with rfl|⟨bk,o,sp,len,cap,rfl,hlc,hc⟩
 ·exact⟨.snil,[],none,⟨0,0,0⟩,fun ρ _=>rfl,fun _ _ e=>(by cases e),⟨Zhm,fun _=>rfl⟩,.inl rfl⟩
 ·rcases hc with c0|⟨rfl,cl,t,fr,hb,hsz,each⟩
  ·subst c0
   obtain rfl:len=0:=oM
   exact⟨.slice k 0 0 1,[],none,⟨0,0,0⟩,fun ρ e=>⟨⟨0,0,0⟩,_,_,e,rfl,.inl ⟨rfl,rfl⟩⟩,fun _ _ e=>(by cases e),⟨Zjd ..,fun _=>rfl⟩,.inl rfl⟩
  ·have pl:((List.range len).map (intOf cl o)).length=len:=by rw[List.length_map,List.length_range]
   refine⟨.slice k 0 len 1,(List.range len).map (intOf cl o),some ((List.range len).map (intOf cl o)),⟨bk,o,cl.size⟩,fun ρ e=>⟨⟨bk,o,cl.size⟩,_,_,e,rfl,.inr ⟨rfl,hlc,by show o+0+cap * 1<=cl.size; omega⟩⟩,fun ρ A' e=>?_,⟨Zjd ..,fun _=>by rw[pl]; rfl⟩,.inr ⟨by rw[pl],rfl⟩⟩
   cases e
   refine⟨cl,t,fr,hb,rfl,fun h=>(by cases h),fun p hp=>?_,fun i c hi=>?_⟩
   ·obtain⟨z,_,rfl⟩:=List.mem_map.1 hp
    rfl
   ·unfold read1 Zei at hi
    rw[Nat.div_one,Nat.mod_one,List.map_map,List.getElem?_map] at hi
    by_cases h1:i<len
    ·rw[List.getElem?_range h1] at hi
     obtain⟨B,e⟩:=each i oM
     have ei:intOf cl o i=B:=by unfold intOf; rw[e]
     simp only[Option.map_some,Function.comp_apply,ei] at hi
     cases hi
     exact⟨_,e,rfl⟩
    ·rw[lN (by rw[List.length_range]; omega)] at hi
     cases hi
def Z3h (n:Nat) (a:Option (List Int)) (h:Hq):Hq:=match a with
 | none=>h
 | some A=>h.put n (.row 1 (Zei A) true)
theorem Zrs {n m:Nat} {a:Option (List Int)} {h:Hq} {o:O} (e:(Z3h n a h).get m=some o):(m=n/\∃ A,a=some A/\o=.row 1 (Zei A) true)\/h.get m=some o:=by
 cases a with
 | none=>exact .inr e
 | some A =>
  have e':(h.put n (.row 1 (Zei A) true)).get m=some o:=e
  rw[H.get_put] at e'
  split at e'
  ·rename_i q; cases e'; exact .inl ⟨q,A,rfl,rfl⟩
  ·exact .inr e'
theorem Zow {n m:Nat} (a:Option (List Int)) (h:Hq) (ne:m≠n):(Z3h n a h).get m=h.get m:=by
 cases a with
 | none=>rfl
 | some A=>exact Ze ne
theorem Zbq (n:Nat) (a:Option (List Int)) (h:Hq):(Z3h n a h).next=h.next:=by
 cases a with
 | none=>rfl
 | some A=>exact H.Zd ..
def Zak (a b:Option (List Int)):Hq:=Z3h 2 b (Z3h 1 a ⟨Su.m,3⟩)
def Zrw (la lb:Go.Ev.Loc):Go.Ev.Ren:=fun n=>if n=2 then some lb else if n=1 then some la else if n=0 then some ⟨1,0,16⟩ else none
theorem Zzf (la lb:Go.Ev.Loc):Dom (Zrw la lb) 3:=fun n hn=>by
 unfold Zrw
 rw[if_neg oM,if_neg oM,if_neg oM]
theorem Zl7 {a b:Option (List Int)} {n:Nat} {o:O} (e:(Zak a b).get n=some o):(n=2/\∃ A,b=some A/\o=.row 1 (Zei A) true)\/(n=1/\∃ A,a=some A/\o=.row 1 (Zei A) true)\/Su.get n=some o:=by
 rcases Zrs e with q|q
 ·exact .inl q
 ·rcases Zrs q with q|q
  ·exact .inr (.inl q)
  ·exact .inr (.inr q)
theorem Zi7 {a b:Option (List Int)} {n:Nat} {o:O} (e:(Zak a b).get n=some o):o.ro=true:=by
 rcases Zl7 e with ⟨_,A,_,rfl⟩|⟨_,A,_,rfl⟩|q
 ·rfl
 ·rfl
 ·rw[(Fp q).2]; rfl
theorem Z3o {W:World} {cs:Array Value} {t:TypeId} {fr:Nat × Nat} (hb:W.heap[1]? = some (.cells cs t fr)) (hcs:cs.toList=steps16.map (Value.int .u32)) {a b:Option (List Int)} {la lb:Go.Ev.Loc} (ha:∀ (ρ:Ren) A,a=some A->Br ρ W (.row 1 (Zei A) true) la) (hb2:∀ (ρ:Ren) A,b=some A->Br ρ W (.row 1 (Zei A) true) lb):Rep K (Zrw la lb) (Zak a b) W:=by
 have R:=Zfs gl hb hcs
 refine⟨fun g n h=>?_,fun n o h=>?_,fun n n' o o' l l' hne h h' _ _ hq=>?_⟩
 ·obtain⟨rfl,rfl⟩:=Ns gl h
  exact⟨16,rfl⟩
 ·rcases Zl7 h with ⟨rfl,A,e,rfl⟩|⟨rfl,A,e,rfl⟩|q
  ·exact⟨lb,rfl,hb2 _ A e⟩
  ·exact⟨la,rfl,ha _ A e⟩
  ·obtain⟨l0,hl0,hor⟩:=R.obj n o q
   obtain⟨rfl,rfl⟩:=Fp q
   refine⟨l0,hl0,?_⟩
   have hs:(O.row 16 [steps16.map (C.int .u32)] true).simple=true:=rfl
   exact (Zap (σ:=fun _=>0) (ρ:=Zrw la lb) (w:=W) hs l0).2 ((Zap (σ:=fun _=>0) (ρ:=Vp 1) (w:=W) hs l0).1 hor)
 ·rw[Zi7 h,Zi7 h'] at hq
  rcases hq with q|q<;>cases q
theorem wf_u8 {n:Int} (h:(Lit.int .u8 n).wf=true):0<=n/\n<256:=by
 simp [Lit.wf,IntKind.min,IntKind.max,IntKind.signed,IntKind.bits] at h
 omega
open Go.Ev
def q6 (p:Lq):Code:=piece p (J7 Tryz.f6)
theorem rs6:Tryz.f6.results.toList=[.cell 2 28,.tmp 3]:=rfl
attribute [go_sem] rs6
theorem lfB (p:Nat):Y3 K 106 (.c (.slice p 0 162 256))=true:=kR
theorem lfT:Y3 K 58 (.c .snil)=true:=kR
theorem HE.Ycu {n q a b c e w:Nat} {cr:Cr} {md:Int} {S T:Lq} {V:Nat->Lq} {h h2:Hq} {y:List (List C)} {ro:Bool} (M:HE n q a b c e cr md S T V h) (hw:h.get w=some (.row 4 y ro)) (w0:0<w) (wn:w<n) (nx:h.next<=h2.next) (k:∀ m,m<q+9->m≠w->h2.get m=h.get m):HE n q a b c e cr md S T V h2:=by
 obtain⟨d,d1,d2,kn,ld,lt,lc,lm,L,f1,f2,f3,f4,f5,f6,f7,f8,f9,f10,f11,M⟩:=M
 refine⟨d,d1,d2,kn,ld,lt,lc,lm,L,f1,f2,f3,f4,f5,f6,f7,f8,f9,f10,f11,?_⟩
 obtain⟨f1,f2,f3,f4,l1,l2,f5,f6,f7,f8,f9,f10,f11,f12,f13,f14,f15,f16,f17,f18,f19,f20,f21⟩:=M
 have wd:d≠w:=fun e=>by
  rw[e,hw] at f8
  have:=(O.row.inj (Option.some.inj f8)).1
  omega
 have wq:d2≠w:=fun e=>by
  rw[e,hw] at f9
  have:=(O.row.inj (Option.some.inj f9)).1
  omega
 have db:=Zig q cr
 exact⟨(k _ oM oM).trans f1,f2,f3,oM,l1,l2,(k _ oM oM).trans f5,(k _ oM oM).trans f6,(k _ oM oM).trans f7,(k _ oM oM).trans f8,(k _ oM oM).trans f9,(k _ oM oM).trans f10,(k _ oM oM).trans f11,(k _ oM oM).trans f12,(k _ oM oM).trans f13,(k _ oM oM).trans f14,(k _ oM oM).trans f15,(k _ oM oM).trans f16,f17,(k _ oM oM).trans f18,(k _ oM oM).trans f19,(fun o=>(k _ oM oM).trans (f20 o)),(k _ oM oM).trans f21⟩
section
variable (Hh:Hearts K Tryz.prog)
include Hh
theorem Yb6 {mo:Nat} (mo1:mo<256) {h:Hq} (hst:h.get 0=some Ot) (l0:0<h.next) :
  ∃ h' n r d y,Zb 6 [.c (.int .u8 (mo:Int))] h (.tup [.g [.ptr (n+13) 0,.ptr r 0,.ptr d 0,.ptr y 0],.c (.bool true)]) h'/\HE n (n+14) 2 60 32 40 (Cr.cl []) (1+((mo % 3:Nat):Int)) [] [] V4 h'/\h.next<=n/\∀ m,m<h.next->h'.get m=h.get m:=by
 have rm3:Rj .u8 (mo:Int) 3=some (.int .u8 ((mo % 3:Nat):Int)):=Ff (b:=3) oM
 have k3:=Nat.mod_lt mo (show 0<3 by omega)
 obtain⟨k,hk⟩:=xzE (mo % 3)
 rw[hk] at rm3 k3 ⊢
 obtain⟨md,hmd⟩:=xzE (1+(k:Int))
 have m1:1<=md/\md<=3:=oM
 have wmd:Jk .u8 (1+(k:Int))=.int .u8 md:=by rw[Zen oM,hmd]
 rw[hmd]
 obtain⟨v,h',cc,n,r,d,y,rfl,M',hn,kk⟩:∃ v h',Zb 6 [.c (.int .u8 (mo:Int))] h v h'/\∃ n r d y,v=.tup [.g [.ptr (n+13) 0,.ptr r 0,.ptr d 0,.ptr y 0],.c (.bool true)]/\HE n (n+14) 2 60 32 40 (Cr.cl []) md [] [] V4 h'/\h.next<=n/\∀ m,m<h.next->h'.get m=h.get m:=by
  refine Yk Hh Tryz.f6 ?_
  have Jf:=Yy @rm3 @wmd
  iterate 3 (first|refine Zo Hh Za Jl ?_|apply gS)
  refine Jo fun hA eA=>?_
  have nA:hA.next=h.next+1:=nxQ eA
  have kA:∀ m,m<h.next->hA.get m=h.get m:=kQ eA
  obtain⟨y2,y2l,a2⟩:∃ y:List C,y.length=4/\hA.get h.next=some (.row 4 [y] false):=⟨_,rfl,by rw[eA]; exact Yn⟩
  clear eA
  obtain⟨hW,n,d,d1,d2',r,y,c1,MW,nW,kW⟩:=Z82 Hh m1.1 m1.2 (h:=hA) ((kA 0 l0).trans hst) oM lfB lfT
  have wx:=MW.nx
  have W2:=(kW h.next oM).trans a2
  have Jf:=Ja Jf @W2 @y2l
  iterate 2 (first|refine Zo Hh (Zj Za c1) Jl ?_|apply gS)
  refine⟨_,_,Zr,n,r,d,y,rfl,(MW.closed (fun z z1 _=>Z90 z z1)).Ycu W2 oM oM ?_ (fun m hm hne=>?_),oM,fun m hm=>?_⟩
  ·simp only[H.Zd,H.Zc,H.Yv]<;>omega
  ·exact Ym
  ·refine Eq.trans ?_ ((kW m oM).trans (kA m hm)); exact Ym
 exact⟨h',n,r,d,y,cc,M',hn,kk⟩
end
open Go.Ev
theorem Yc6 {a b c e j g:Nat} {V:Nat->Lq} (jl:j<a * c) (gb:g<4294967296) (gz:gI a b c e V ((j+1:Nat):Int)=(Rh 2 1 g 0 (fun _=>0) 0,0)):DirS a b c e V j g (fun _=>0) [] [] :=
 ⟨gz,jl,gb,fun i _=>by omega,fun _ _ _=>rfl,⟨by simp,rfl,fun i z hz=>by simp at hz⟩,List.nodup_nil,fun z hz=>by simp at hz⟩
theorem Z8z:gI 2 60 32 40 V4 1=(Rh 2 1 1 0 (fun _=>0) 0,0):=kR
theorem Yb5:V4 0=Vs 0:=kR
theorem Yeg:∀ k,k<2->V4 (2+40+k * 60)=Zcm (gG 60 32 0 k)
 | 0,_=>(by kernel_rfl:V4 42=Zcm (gG 60 32 0 0))
 | 1,_=>(by kernel_rfl:V4 102=Zcm (gG 60 32 0 1))
 | n+2,h=>by omega
theorem alT:AlG 2 60 32 40 (iw0 32) V4 0:=⟨Yeg,⟨kR,kR,R6⟩,Zna (Zog oM)⟩
theorem tst0:TSt 2 60 32 40 (iw0 32) V4 0 [0] (fun _=>0) (fun _ _=>0) :=
 ⟨alT,fun _=>1,fun _ _=>0,fun _=>[],fun _=>[],fun j hj=>by
  obtain rfl:=List.mem_singleton.1 hj
  exact⟨Yc6 oM (show 1<4294967296 by omega) Z8z,DN.nil,rfl,fun z hz=>by cases hz⟩,fun j hj i hi ne z hz=>by cases hz⟩
def iwF:Nat->Nat × Nat:=upJ (iw0 32) 0 (31 - 1,Qt ((1:Nat):Int) 1)
theorem Zjb:Zb0 32 iwF:=fun k=>by
 unfold iwF
 by_cases e:k=0
 ·subst e; rw[Jq]; decide
 ·rw[Gc e]; exact Zog oM k
def NB (B:List Bool):List UInt8->Nat:=fun s=>if s=first5 then 2 else if ((List.range 12).any fun k=>decide (s=ltr k)&&B.getD k false)=true then 2 else 0
theorem Zyv (k:Nat) (h:k<12):ltr k≠first5:=fun e=>by
 have:=congrArg List.length e
 exact absurd this (by show ¬ (2=5); omega)
theorem Z7e:∀ k,k<12->∀ j,j<12->ltr k=ltr j->k=j:=by decide
theorem Zon (k:Nat) (h:k<12):ltr k∈Zkz:=List.mem_cons_of_mem _ (List.mem_map.2 ⟨k,List.mem_range.2 h,rfl⟩)
theorem Zpw (B:List Bool):NB B first5=2:=if_pos rfl
theorem Z9z {B:List Bool} {k:Nat} (h:k<12):((List.range 12).any fun j=>decide (ltr k=ltr j)&&B.getD j false)=B.getD k false:=by
 rw[Bool.eq_iff_iff,List.any_eq_true]
 constructor
 ·rintro⟨j,hj,w⟩
  rw[aQ,decide_eq_true_eq] at w
  rw[Z7e k h j (List.mem_range.1 hj) w.1]
  exact w.2
 ·intro w
  exact⟨k,List.mem_range.2 h,by rw[w,decide_eq_true rfl]; rfl⟩
theorem Znc {B:List Bool} {k:Nat} (h:k<12):NB B (ltr k)=if B.getD k false=true then 2 else 0:=by
 unfold NB
 rw[if_neg (Zyv k h),Z9z h]
theorem Zsu {B:List Bool} {k:Nat} (h:k<12) (hl:B.length=12) (b:Bool):upN (NB B) (ltr k) (if b=true then 2 else 0)=NB (B.set k b):=by
 funext s
 by_cases e:s=ltr k
 ·subst e
  rw[Xq,Znc h,lD,List.getElem?_set_self oM]
  rfl
 ·rw[Zcy e]
  unfold NB
  have:((List.range 12).any fun j=>decide (s=ltr j)&&(B.set k b).getD j false)=((List.range 12).any fun j=>decide (s=ltr j)&&B.getD j false):=by
   rw[Bool.eq_iff_iff,List.any_eq_true,List.any_eq_true]
   have key:∀ j,(decide (s=ltr j)&&(B.set k b).getD j false)=(decide (s=ltr j)&&B.getD j false):=fun j=>by
    by_cases ej:s=ltr j
    ·have:k≠j:=fun q=>e (by rw[ej,q])
     rw[lD,lS this,<-lD]
    ·rw[decide_eq_false ej]; rfl
   simp only[key]
  rw[this]
def O6 (B:List Bool):Nat:=(B.filter id).length
theorem Zns:∀ {B:List Bool} {k:Nat},k<B.length->O6 (B.set k true)=O6 B+(if B.getD k false=true then 0 else 1)/\O6 (B.set k false)+(if B.getD k false=true then 1 else 0)=O6 B
 | [],k,h=>absurd h (by simp)
 | b :: B,0,_=>by
  cases b<;>simp [O6]
 | b :: B,k+1,h=>by
  have ih:=Zns (B:=B) (k:=k) (by simpa using h)
  have e:∀ x:Bool,O6 ((b :: B).set (k+1) x)=(if b=true then 1 else 0)+O6 (B.set k x):=fun x=>by
   cases b<;>simp [O6,List.filter_cons]<;>omega
  have e0:O6 (b :: B)=(if b=true then 1 else 0)+O6 B:=by cases b<;>simp [O6,List.filter_cons]<;>omega
  rw[e,e,e0]
  have g:(b :: B).getD (k+1) false=B.getD k false:=by simp
  rw[g]
  omega
theorem Zwc {B:List Bool} {k:Nat} (h:B.getD k false=true):0<O6 B:=by
 have:true∈B:=by
  rw[lD] at h
  cases e:B[k]? with
  | none=>rw[e] at h; cases h
  | some b=>rw[e] at h; rw[<-(show b=true from h)]; exact lM e
 exact List.length_pos_of_mem (List.mem_filter.2 ⟨this,rfl⟩)
theorem Z1f (B:List Bool):O6 B<=B.length:=List.length_filter_le _ _
def B0:List Bool:=List.replicate 12 false
theorem Yel:NB B0=upN (fun _=>0) first5 2:=by
 funext s
 unfold NB upN
 by_cases e:s=first5
 ·rw[if_pos e,if_pos e]
 ·rw[if_neg e,if_neg e,if_neg]
  rw[Bool.not_eq_true,List.any_eq_false]
  intro k hk
  have:B0.getD k false=false:=by
   rw[lD]
   unfold B0
   rw[List.getElem?_replicate]
   split<;>rfl
  rw[this,Bool.and_false]
  decide
section
variable (Hh:Hearts K Tryz.prog)
include Hh
variable {n q:Nat} {md:Int} {V:Nat->Lq} {h:Hq}
theorem Zqf:∀ k:Nat,k<12->∀ h:Hq,Zb 8 [.c (.int .i64 (k:Int))] h (.w (.c (.str (ltr k)))) h
 | 0,_,h=>Zu.closed fits Hh Xt gl (n:=1000) kR rfl rfl h
 | 1,_,h=>Zu.closed fits Hh Xt gl (n:=1000) kR rfl rfl h
 | 2,_,h=>Zu.closed fits Hh Xt gl (n:=1000) kR rfl rfl h
 | 3,_,h=>Zu.closed fits Hh Xt gl (n:=1000) kR rfl rfl h
 | 4,_,h=>Zu.closed fits Hh Xt gl (n:=1000) kR rfl rfl h
 | 5,_,h=>Zu.closed fits Hh Xt gl (n:=1000) kR rfl rfl h
 | 6,_,h=>Zu.closed fits Hh Xt gl (n:=1000) kR rfl rfl h
 | 7,_,h=>Zu.closed fits Hh Xt gl (n:=1000) kR rfl rfl h
 | 8,_,h=>Zu.closed fits Hh Xt gl (n:=1000) kR rfl rfl h
 | 9,_,h=>Zu.closed fits Hh Xt gl (n:=1000) kR rfl rfl h
 | 10,_,h=>Zu.closed fits Hh Xt gl (n:=1000) kR rfl rfl h
 | 11,_,h=>Zu.closed fits Hh Xt gl (n:=1000) kR rfl rfl h
 | _+12,w,_=>absurd w oM
theorem Ztj (m0:md≠0):Z0h n md V4 1 1 first5 2 (fun V=>TLs iwF V (NB B0) 1):=by
 intro q cr _ h M
 obtain⟨h1,V1,c1,M1,k1,T1,I1,g1,_,io1,o1⟩:=Yc4 Hh M tst0 ISt.init oM oM dM (i0:=31) (w0:=1) rfl (Zog oM) oM oM (kq:=1) (.inl rfl) (near:=1) oM dM dM dM
 refine⟨h1,V1,c1,M1,k1,fun {h1} M1=>?_⟩
 have T:TLs iwF V1 (fun _=>0) 1:=⟨⟨0,_,_,T1,rfl,rfl,by decide⟩,g1,(o1 0 oM oM oM).trans Yb5,fun s hs=>absurd rfl hs⟩
 obtain⟨h2,V2,c2,M2,T2,k2⟩:=TLs.add Hh m0 Zjb M1 T (s:=first5) dM rfl
 rw[Yel]
 exact⟨h2,V2,c2,M2,T2,k2⟩
end
open Go.Ev
theorem ty34:K.types.get 34=some ti34:=kR
theorem sz34:ti34.size=12:=by rfl
theorem de34:ti34.desc=(.array 12 4):=by rfl
theorem ze34:ti34.zero=(.g ((List.replicate 12 (.bool false)))):=by rfl
attribute [go_sem] ty34 sz34 de34 ze34
def q3 (p:Lq):Code:=piece p (J7 Tryz.f3)
theorem rs3:Tryz.f3.results.toList=[.tmp 4]:=rfl
attribute [go_sem] rs3
theorem Yaf {a b:List UInt8} (h:a.length+b.length<=600):Vk .add a b=some (.str (a++b)):=by
 show (bif Nat.ble (a.length+b.length) 1099511627776 then some (C.str (a++b)) else none)=_
 rw[Nat.ble_eq_true_of_le oM]
 rfl
def Sw (B:List Bool):List C:=B.map C.bool
theorem Zwq {B:List Bool} {k:Nat} (hl:B.length=12) (h:k<12):read1 12 [Sw B] k=some (.bool (B.getD k false)):=by
 have e:(Sw B)[k]? = some (.bool (B.getD k false)):=by
  unfold Sw
  rw[List.getElem?_map,lD,lG oM]
  rfl
 have:=Dh (L:=[Sw B]) (sz:=12) (i:=0) (j:=k) h rfl
 rw[Nat.zero_mul,Nat.zero_add,e] at this
 exact this
theorem Zwr {B:List Bool} {k:Nat} (hl:B.length=12) (h:k<12) (b:Bool):Z0 12 [Sw B] k [.bool b]=some [Sw (B.set k b)]:=by
 have e:=Ni (L:=[Sw B]) (sz:=12) (k:=0) (j:=k) (x:=Sw B) (c:=.bool b) rfl (by unfold Sw; rw[List.length_map,hl]) h
 rw[Nat.zero_mul,Nat.zero_add] at e
 rw[e]
 unfold Sw
 rw[List.map_set]
 rfl
section
variable (Hh:Hearts K Tryz.prog)
include Hh
theorem Zyu {n b0 p5 p9 r d y:Nat} {md:Int} {A:List Int} {c:C} (m0:md≠0) (A40:A.length<=40) (pb:n+23<=p5/\n+23<=p9/\p5≠p9/\b0<=n):∀ (m i q:Nat) (V:Nat->Lq) (B:List Bool) (ts:Zx) (h:Hq),i+m=A.length->B.length=12->O6 B<=i->HE n q 2 60 32 40 (Cr.cl chT) md [] [] V h->TLs iwF V (NB B) (1+O6 B)->ArI b0 h c A->h.get p5=some (.row 4 [[.ptr (n+13) 0,.ptr r 0,.ptr d 0,.ptr y 0]] false)->h.get p9=some (.row 12 [Sw B] false)->p5<h.next/\p9<h.next/\n+23<=h.next->(p9<q+7\/q+9<=p9)->Zg ts 1=.w (.c c)->Zg ts 5=.w (.c (.ptr p5 0))->Zg ts 7=.w (.c (.int .i64 2))->Zg ts 9=.w (.c (.ptr p9 0))->Zg ts 10=.w (.c (.int .i64 ((1+O6 B:Nat):Int)))->Zg ts 11=.w (.c (.int .i64 (i:Nat))) ->
  Z8 145 none (q3 [1,1,1,1,1,1,1,1,0,1,2]) [] ts h fun x ds' ts' h'=>x=.exit 0/\ds'=[]/\Zg ts' 5=.w (.c (.ptr p5 0))/\Zg ts' 9=.w (.c (.ptr p9 0))/\∃ q V B,B.length=12/\HE n q 2 60 32 40 (Cr.cl chT) md [] [] V h'/\TLs iwF V (NB B) (1+O6 B)/\h'.get p5=some (.row 4 [[.ptr (n+13) 0,.ptr r 0,.ptr d 0,.ptr y 0]] false)/\h'.get p9=some (.row 12 [Sw B] false)/\p5<h'.next/\p9<h'.next/\n+23<=h'.next:=by
 intro m
 induction m with
 | zero =>
  intro i q V B ts h hi Bl ci M T ar w5 w9 lt sep t1 t5 t7 t9 t10 t11
  obtain rfl:i=A.length:=oM
  obtain⟨⟨lf,ln⟩,_⟩:=ar
  have dd:decide (((A.length:Nat):Int)<((A.length:Nat):Int))=false:=decide_eq_false oM
  have Jf:=G6 @t1 @t11 @lf @ln @dd
  iterate 6 (first|refine gZ Mt ?_|refine Zo Hh Za Mt ?_|apply gS)
  refine⟨rfl,rfl,?_,?_,q,V,B,Bl,M,T,w5,w9,lt⟩
  ·have Jf:=@t5; exact Zm
  ·have Jf:=@t9; exact Zm
 | succ m ih =>
  intro i q V B ts h hi Bl ci M T ar w5 w9 lt sep t1 t5 t7 t9 t10 t11
  have ar':=ar
  obtain⟨⟨lf,ln⟩,rfl|⟨pa,ro,pn,rfl,ha⟩⟩:=ar
  ·simp at hi
  have iA:i<A.length:=oM
  obtain⟨nq,nx,n0⟩:=M.nx
  have cl:=Z1f B
  obtain⟨z,hz⟩:∃ z,A[i]? = some z:=⟨_,lG iA⟩
  have rz:=rdZ hz
  have wz:=Z4d z
  obtain⟨Z,hZ⟩:=xzE ((z % 18446744073709551616).toNat)
  rw[hZ] at wz
  have rm:=Ff (k:=.u64) (a:=Z) (b:=12) oM
  have kN:=Nat.mod_lt Z (show 0<12 by omega)
  obtain⟨k,hk⟩:=xzE (Z % 12)
  rw[hk] at rm kN
  have rm:Rj .u64 (Z:Int) 12=some (.int .u64 (k:Int)):=rm
  have cC:=Zqf Hh k kN h
  have sl:=Zmq Hh k kN
  have rb:=Zwq Bl kN
  have cs:=Zns (B:=B) (k:=k) oM
  have dd:decide ((i:Int)<((A.length:Nat):Int))=true:=decide_eq_true oM
  obtain⟨Q,hQ⟩:=xzE (Zei A)
  obtain⟨G,hG⟩:=xzE (A.length)
  rw[hQ] at ha rz
  have t1':=t1
  rw[hG] at iA t1 lf ln dd
  have r5:∀ a b c d:C,read1 4 [[a,b,c,d]] 0=some a:=fun _ _ _ _=>rfl
  cases hb:B.getD k false with
  | false =>
   rw[hb] at rb cs
   have nk:NB B (ltr k)=0:=by rw[Znc kN,hb]; rfl
   have ns:=Zsu (B:=B) kN Bl true
   rw[if_pos rfl] at ns
   obtain⟨h1,q1,V1,c17,M1,T1,n1,k1⟩:=Z8l Hh m0 Zjb M (fun _ hk=>hk) lt.2.2 T oM (Zon k kN) nk (Zpw B) (Za0 Hh) sl
   rw[ns] at T1
   have c1:O6 (B.set k true)=O6 B+1:=cs.1
   rw[show 1+O6 B+1=1+O6 (B.set k true) by omega] at T1
   have B':=Zwr Bl kN true
   have W5:=(k1 p5 lt.1 (.inr pb.1)).trans w5
   have W9:=(k1 p9 lt.2.1 (.inr pb.2.1)).trans w9
   obtain⟨hA,eA⟩:∃ hA,hA=h1.put p9 (.row 12 [Sw (B.set k true)] false):=⟨_,rfl⟩
   have nA:hA.next=h1.next:=by rw[eA,H.Zd]
   have kA:∀ m,m≠p9->hA.get m=h1.get m:=fun m hm=>by rw[eA,Ze hm]
   have A9:hA.get p9=some (.row 12 [Sw (B.set k true)] false):=by rw[eA,Zy]
   have A5:=(kA p5 pb.2.2.1).trans W5
   have MA:=M1.Zwx (h2:=hA) oM fun m hm=>kA m oM
   obtain⟨h2,c26,M2,k2⟩:=Zi8 Hh Qk MA (2:Int)
   rw[T1.fi] at c26
   have n2:=k2.1
   have f5:=(k2.2 p5 oM oM).trans A5
   have f9:=(k2.2 p9 oM oM).trans A9
   have il:(Bz (1+O6 (B.set k true))).length=16:=rfl
   have y1:read1 16 [Bz (1+O6 (B.set k true))] 1=some (.int .i64 ((1+O6 (B.set k true):Nat):Int)):=rfl
   have u10:((1+O6 B:Nat):Int)+1=((1+O6 (B.set k true):Nat):Int):=oM
   have Bl':(B.set k true).length=12:=by rw[List.length_set,Bl]
   obtain⟨B2,hB2⟩:=xzE (B.set k true)
   rw[hB2] at T1 B' A9 f9 c26 il y1 u10 Bl' c1 eA
   obtain⟨L2,hL2⟩:=xzE (1+O6 B2)
   obtain⟨L1,hL1⟩:=xzE (1+O6 B)
   rw[hL2] at c26 il y1 u10
   rw[hL1] at t10 u10
   have e10:((L2:Int) != (L2:Int))=false:=Z2h rfl
   obtain⟨Y,hY⟩:=xzE (Bz L2)
   rw[hY] at c26 il y1
   obtain⟨X1,hX1⟩:∃ X,Sw B=X:=⟨_,rfl⟩
   obtain⟨X2,hX2⟩:∃ X,Sw B2=X:=⟨_,rfl⟩
   rw[hX1] at rb B' w9 W9
   rw[hX2] at B' eA A9 f9
   have cC:Zb 8 [.c (.int .i64 (k:Int))] h (.w (.c (.str (ltr k)))) h:=cC
   have cat:Vk .add [47] (ltr k)=some (.str (47 :: ltr k)):=Yaf (a:=[47]) (b:=ltr k) (show 1+2<=600 by omega)
   obtain⟨sk,hsk⟩:∃ s,ltr k=s:=⟨_,rfl⟩
   rw[hsk] at cC c17 cat
   have c17:Zb 9 [.c (.ptr (n+13) 0),.c (.str [47,102,105,114,115,116]),.c (.str (47 :: sk))] h (.tup [.c (.int .i64 2),.c (.int .i64 0)]) h1:=c17
   have Jf:=Yy @r5 (Yu @t1 @t5 @t7 @t9 @t10 @t11 @lf @ln (Yu @dd @iA @ha @rz @wz @rm @kN @rb (Yu @w5 @w9 @W9 @B' @u10 @il @y1 @e10 @cat)))
   iterate 11 (first|refine gZ Y9 ?_|refine Zo Hh Za Y9 ?_|apply gS)
   iterate 6 (first|refine gZ Y9 ?_|refine Zo Hh (Zj Za cC) Y9 ?_|apply gS)
   iterate 10 (first|refine gZ Y9 ?_|refine Zo Hh (Zj Za c17) Y9 ?_|apply gS)
   rw[<-eA]
   have Jf:=Yy Jf @A5
   iterate 6 (first|refine gZ Y9 ?_|refine Zo Hh (Zj Za c26) Y9 ?_|apply gS)
   show Z8 145 none (q3 [1,1,1,1,1,1,1,1,0,1,2]) _ _ _ _
   refine ih (i+1) q1 V1 B2 _ _ oM Bl' oM (M2.keep ?_ (fun m hm=>?_)) (by rw[hL2]; rw[hL2] at T1; exact T1) (ar'.keep fun p hp=>?_) ?_ ?_ ⟨?_,?_,?_⟩ oM ?_ ?_ ?_ ?_ ?_ ?_
   ·simp only[H.Zd,H.Zc]; omega
   ·have:=M2.nx; exact Ym
   ·refine Eq.trans ?_ ((k2.2 p oM oM).trans ((kA p oM).trans (k1 p oM oM))); exact Ym
   ·refine Eq.trans ?_ f5; exact Ym
   ·rw[hX2]; refine Eq.trans ?_ f9; exact Ym
   ·simp only[H.Zd,H.Zc]; omega
   ·simp only[H.Zd,H.Zc]; omega
   ·simp only[H.Zd,H.Zc]; omega
   ·have Jf:=@t1'; exact Zm
   ·have Jf:=@t5; exact Zm
   ·have Jf:=@t7; exact Zm
   ·have Jf:=@t9; exact Zm
   ·rw[hL2]; exact Zm
   ·exact Zf
  | true =>
   rw[hb] at rb cs
   have nk:NB B (ltr k)=2:=by rw[Znc kN,hb]; rfl
   have c0:=Zwc hb
   have ns:=Zsu (B:=B) kN Bl false
   rw[if_neg dM] at ns
   obtain⟨h1,q1,V1,c21,M1,T1,n1,k1⟩:=Zfy Hh m0 Zjb (l:=O6 B) M (fun _ hk=>hk) lt.2.2 (by rw[Nat.add_comm]; exact T) oM (Zon k kN) nk sl
   rw[decide_eq_false oM] at c21
   replace T1:=T1.resolve_left oM
   rw[ns] at T1
   have c1:O6 (B.set k false)+1=O6 B:=cs.2
   rw[show O6 B=1+O6 (B.set k false) by omega] at T1
   have B':=Zwr Bl kN false
   have W5:=(k1 p5 lt.1 (.inr pb.1)).trans w5
   have W9:=(k1 p9 lt.2.1 (.inr pb.2.1)).trans w9
   obtain⟨hA,eA⟩:∃ hA,hA=h1.put p9 (.row 12 [Sw (B.set k false)] false):=⟨_,rfl⟩
   have nA:hA.next=h1.next:=by rw[eA,H.Zd]
   have kA:∀ m,m≠p9->hA.get m=h1.get m:=fun m hm=>by rw[eA,Ze hm]
   have A9:hA.get p9=some (.row 12 [Sw (B.set k false)] false):=by rw[eA,Zy]
   have A5:=(kA p5 pb.2.2.1).trans W5
   have MA:=M1.Zwx (h2:=hA) oM fun m hm=>kA m oM
   obtain⟨h2,c26,M2,k2⟩:=Zi8 Hh Qk MA (2:Int)
   rw[T1.fi] at c26
   have n2:=k2.1
   have f5:=(k2.2 p5 oM oM).trans A5
   have f9:=(k2.2 p9 oM oM).trans A9
   have il:(Bz (1+O6 (B.set k false))).length=16:=rfl
   have y1:read1 16 [Bz (1+O6 (B.set k false))] 1=some (.int .i64 ((1+O6 (B.set k false):Nat):Int)):=rfl
   have u10:((1+O6 B:Nat):Int) - 1=((1+O6 (B.set k false):Nat):Int):=oM
   have Bl':(B.set k false).length=12:=by rw[List.length_set,Bl]
   obtain⟨B2,hB2⟩:=xzE (B.set k false)
   rw[hB2] at T1 B' A9 f9 c26 il y1 u10 Bl' c1 eA
   obtain⟨L2,hL2⟩:=xzE (1+O6 B2)
   obtain⟨L1,hL1⟩:=xzE (1+O6 B)
   rw[hL2] at c26 il y1 u10
   rw[hL1] at t10 u10
   have e10:((L2:Int) != (L2:Int))=false:=Z2h rfl
   obtain⟨Y,hY⟩:=xzE (Bz L2)
   rw[hY] at c26 il y1
   obtain⟨X1,hX1⟩:∃ X,Sw B=X:=⟨_,rfl⟩
   obtain⟨X2,hX2⟩:∃ X,Sw B2=X:=⟨_,rfl⟩
   rw[hX1] at rb B' w9 W9
   rw[hX2] at B' eA A9 f9
   have cC:Zb 8 [.c (.int .i64 (k:Int))] h (.w (.c (.str (ltr k)))) h:=cC
   have cat:Vk .add [47] (ltr k)=some (.str (47 :: ltr k)):=Yaf (a:=[47]) (b:=ltr k) (show 1+2<=600 by omega)
   obtain⟨sk,hsk⟩:∃ s,ltr k=s:=⟨_,rfl⟩
   rw[hsk] at cC c21 cat
   have c21:Zb 10 [.c (.ptr (n+13) 0),.c (.str (47 :: sk))] h (.tup [.c (.int .i64 2),.c (.bool false),.c (.int .i64 0)]) h1:=c21
   have Jf:=Yy @r5 (Yu @t1 @t5 @t7 @t9 @t10 @t11 @lf @ln (Yu @dd @iA @ha @rz @wz @rm @kN @rb (Yu @w5 @w9 @W9 @B' @u10 @il @y1 @e10 @cat)))
   iterate 11 (first|refine gZ Y9 ?_|refine Zo Hh Za Y9 ?_|apply gS)
   iterate 6 (first|refine gZ Y9 ?_|refine Zo Hh (Zj Za cC) Y9 ?_|apply gS)
   iterate 10 (first|refine gZ Y9 ?_|refine Zo Hh (Zj Za c21) Y9 ?_|apply gS)
   rw[<-eA]
   have Jf:=Yy Jf @A5
   iterate 6 (first|refine gZ Y9 ?_|refine Zo Hh (Zj Za c26) Y9 ?_|apply gS)
   show Z8 145 none (q3 [1,1,1,1,1,1,1,1,0,1,2]) _ _ _ _
   refine ih (i+1) q1 V1 B2 _ _ oM Bl' oM (M2.keep ?_ (fun m hm=>?_)) (by rw[hL2]; rw[hL2] at T1; exact T1) (ar'.keep fun p hp=>?_) ?_ ?_ ⟨?_,?_,?_⟩ oM ?_ ?_ ?_ ?_ ?_ ?_
   ·simp only[H.Zd,H.Zc]; omega
   ·have:=M2.nx; exact Ym
   ·refine Eq.trans ?_ ((k2.2 p oM oM).trans ((kA p oM).trans (k1 p oM oM))); exact Ym
   ·refine Eq.trans ?_ f5; exact Ym
   ·rw[hX2]; refine Eq.trans ?_ f9; exact Ym
   ·simp only[H.Zd,H.Zc]; omega
   ·simp only[H.Zd,H.Zc]; omega
   ·simp only[H.Zd,H.Zc]; omega
   ·have Jf:=@t1'; exact Zm
   ·have Jf:=@t5; exact Zm
   ·have Jf:=@t7; exact Zm
   ·have Jf:=@t9; exact Zm
   ·rw[hL2]; exact Zm
   ·exact Zf
end
theorem Z1g {B:List Bool} (h:∀ i,i<B.length->B.getD i false=false):O6 B=0:=by
 unfold O6
 rw[List.length_eq_zero_iff,List.filter_eq_nil_iff]
 intro b hb
 obtain⟨i,hi,rfl⟩:=List.mem_iff_getElem.1 hb
 have:=h i hi
 rw[lD,lG hi] at this
 rw[show B[i]=false from this]
 decide
section
variable (Hh:Hearts K Tryz.prog)
include Hh
theorem Z2a {n p5 p9 r d y:Nat} {md:Int} {B:List Bool} (m0:md≠0) (Bl:B.length=12) (pb:n+23<=p5/\n+23<=p9):∀ (m j q:Nat) (V:Nat->Lq) (B':List Bool) (ts:Zx) (h:Hq),j+m=12->B'.length=12->(∀ i,i<j->B'.getD i false=false)->(∀ i,j<=i->B'.getD i false=B.getD i false)->HE n q 2 60 32 40 (Cr.cl chT) md [] [] V h->TLs iwF V (NB B') (1+O6 B')->h.get p5=some (.row 4 [[.ptr (n+13) 0,.ptr r 0,.ptr d 0,.ptr y 0]] false)->h.get p9=some (.row 12 [Sw B] false)->p5<h.next/\p9<h.next/\n+23<=h.next->Zg ts 5=.w (.c (.ptr p5 0))->Zg ts 9=.w (.c (.ptr p9 0))->Zg ts 21=.w (.c (.int .i64 (j:Nat))) ->
  Z8 145 none (q3 [1,1,1,1,1,1,1,1,1,0,1,2]) [] ts h fun x ds' ts' h'=>x=.exit 2/\ds'=[]/\Zg ts' 5=.w (.c (.ptr p5 0))/\∃ q V B',HE n q 2 60 32 40 (Cr.cl chT) md [] [] V h'/\TLs iwF V (NB B') 1/\h'.get p5=some (.row 4 [[.ptr (n+13) 0,.ptr r 0,.ptr d 0,.ptr y 0]] false)/\n+23<=h'.next:=by
 intro m
 induction m with
 | zero =>
  intro j q V B' ts h hj Bl' lo hi M T w5 w9 lt t5 t9 t21
  obtain rfl:j=12:=oM
  rw[Z1g (B:=B') fun i hi=>lo i oM] at T
  have Jf:=@t21
  iterate 6 (first|refine gZ Zm ?_|refine Zo Hh Za Zm ?_|apply gS)
  exact⟨rfl,rfl,by simp (maxSteps:=9^6) +decide (disch:=first|exact dZ|fail) only [go_sem,Zn,Zi,simprocAttr,t5],q,V,B',M,T,w5,lt.2.2⟩
 | succ m ih =>
  intro j q V B' ts h hj Bl' lo hi M T w5 w9 lt t5 t9 t21
  have jN:j<12:=oM
  have rb:=Zwq Bl jN
  have rb9:=rb
  have dd:decide ((j:Int)<12)=true:=decide_eq_true oM
  have r5:∀ a b c d:C,read1 4 [[a,b,c,d]] 0=some a:=fun _ _ _ _=>rfl
  obtain⟨X1,hX1⟩:∃ X,Sw B=X:=⟨_,rfl⟩
  rw[hX1] at rb
  have w9':=w9
  rw[hX1] at w9'
  cases hb:B.getD j false with
  | false =>
   rw[hb] at rb
   have Jf:=Nl @t5 @t9 @t21 @rb @dd @jN @w9' @r5
   iterate 13 (first|refine gZ Zr ?_|refine Zo Hh Za Zr ?_|apply gS)
   show Z8 145 none (q3 [1,1,1,1,1,1,1,1,1,0,1,2]) _ _ _ _
   refine ih (j+1) q V B' _ h oM Bl' (fun i hi'=>?_) (fun i hi'=>hi i oM) M T w5 w9 lt ?_ ?_ ?_
   ·rcases Nat.lt_or_ge i j with w|w
    ·exact lo i w
    ·rw[show i=j by omega,hi j oM,hb]
   ·have Jf:=@t5; exact Zm
   ·have Jf:=@t9; exact Zm
   ·exact Zf
  | true =>
   rw[hb] at rb
   have hb':B'.getD j false=true:=by rw[hi j oM,hb]
   have cC:=Zqf Hh j jN h
   have sl:=Zmq Hh j jN
   have cs:=Zns (B:=B') (k:=j) oM
   rw[hb'] at cs
   have cl:=Z1f B'
   have nk:NB B' (ltr j)=2:=by rw[Znc jN,hb']; rfl
   have c0:=Zwc hb'
   have ns:=Zsu (B:=B') jN Bl' false
   rw[if_neg dM] at ns
   obtain⟨h1,q1,V1,c21,M1,T1,n1,k1⟩:=Zfy Hh m0 Zjb (l:=O6 B') M (fun _ hk=>hk) lt.2.2 (by rw[Nat.add_comm]; exact T) oM (Zon j jN) nk sl
   rw[decide_eq_false oM] at c21
   replace T1:=T1.resolve_left oM
   rw[ns] at T1
   have c1:O6 (B'.set j false)+1=O6 B':=cs.2
   rw[show O6 B'=1+O6 (B'.set j false) by omega] at T1
   have W5:=(k1 p5 lt.1 (.inr pb.1)).trans w5
   have W9:=(k1 p9 lt.2.1 (.inr pb.2)).trans w9
   have cC:Zb 8 [.c (.int .i64 (j:Int))] h (.w (.c (.str (ltr j)))) h:=cC
   have cat:Vk .add [47] (ltr j)=some (.str (47 :: ltr j)):=Yaf (a:=[47]) (b:=ltr j) (show 1+2<=600 by omega)
   obtain⟨sk,hsk⟩:∃ s,ltr j=s:=⟨_,rfl⟩
   rw[hsk] at cC c21 cat
   have Jf:=Yy @t5 (Yu @t9 @t21 @rb @dd @jN @w5 @w9' @r5 @cat)
   iterate 11 (first|refine gZ Zr ?_|refine Zo Hh Za Zr ?_|apply gS)
   iterate 2 (first|refine Zo Hh (Zj (Zj Za cC) c21) Zr ?_|refine F7 Hh (Zj (Zj Za cC) c21) Zh0 ?_)
   show Z8 145 none (q3 [1,1,1,1,1,1,1,1,1,0,1,2]) _ _ _ _
   refine ih (j+1) q1 V1 (B'.set j false) _ h1 oM (by rw[List.length_set,Bl']) (fun i hi'=>?_) (fun i hi'=>?_) M1 T1 W5 W9 ⟨oM,oM,oM⟩ ?_ ?_ ?_
   ·rw[lD]
    rcases Nat.lt_or_ge i j with w|w
    ·rw[lS oM,<-lD]; exact lo i w
    ·rw[show i=j by omega,List.getElem?_set_self oM]; rfl
   ·rw[lD,lS oM,<-lD]; exact hi i oM
   ·have Jf:=@t5; exact Zm
   ·have Jf:=@t9; exact Zm
   ·exact Zf
theorem Z2p {h:Hq} (hst:h.get 0=some Ot) (l0:0<h.next) {c:C} {A:List Int} (ar:ArI h.next h c A) {mo:Nat} (mo1:mo<256) :
  ∃ h',Zb 3 [.c (.int .u8 (mo:Int)),.c c] h (.w (.c (.bool true))) h':=by
 obtain⟨lf,ln⟩:=ar.1
 obtain⟨v,h',cc,rfl⟩:∃ v h',Zb 3 [.c (.int .u8 (mo:Int)),.c c] h v h'/\v=.w (.c (.bool true)):=by
  by_cases A41:40<A.length
  ·have da:decide (((A.length:Nat):Int) > 40)=true:=decide_eq_true oM
   refine Yk Hh Tryz.f3 ?_
   have Jf:=Ja @lf @ln @da
   iterate 9 (first|refine gZ Mt ?_|refine Zo Hh Za Mt ?_|apply gS)
   exact⟨_,_,Zf,rfl⟩
  ·have da:decide (((A.length:Nat):Int) > 40)=false:=decide_eq_false oM
   obtain⟨hW,n,r,d,y,cW,MW,nW,kW⟩:=Yb6 Hh mo1 hst l0
   have md0:(1+((mo % 3:Nat):Int))≠0:=oM
   obtain⟨md,hmd⟩:=xzE (1+((mo % 3:Nat):Int))
   rw[hmd] at MW md0
   have wx:=MW.nx
   have rd4:∀ a b c d:C,read1 4 [[a,b,c,d]] 0=some a:=fun _ _ _ _=>rfl
   have ld:=tst0.leads (n:=n) (q:=n+14) (cr:=Cr.cl []) (md:=md) (S:=[]) (T:=[]) (j:=0) (s:=first5) Hh Qk md0 (by simp) dM
   refine Yk Hh Tryz.f3 ?_
   have Jf:=J6 @rd4 @lf @ln @da
   iterate 8 (first|refine gZ Y9 ?_|refine Zo Hh Za Y9 ?_|apply gS)
   iterate 7 (first|refine gZ Y9 ?_|refine Zo Hh (Zj Za cW) Y9 ?_|apply gS)
   refine Jo fun hA eA=>?_
   have nA:hA.next=hW.next+1:=nxQ eA
   have kA:∀ m,m<hW.next->hA.get m=hW.get m:=kQ eA
   have a5:hA.get hW.next=some (.row 4 [[.ptr (n+13) 0,.ptr r 0,.ptr d 0,.ptr y 0]] false):=by rw[eA]; exact Yn
   clear eA
   have MA:=MW.keep (h2:=hA) oM (fun m hm=>kA m oM)
   have n23:n+23<=hA.next:=oM
   obtain⟨h6,q6,V6,c6,M6,T6,n6,k6⟩:=Z8n Hh md0 (.inl rfl) MA (fun k hk=>by cases hk) n23 (k:=0) (z:=fun _=>1) (Za0 Hh) rfl oM rfl (fun j s hj=>absurd hj oM) rfl rfl ld (Ztj Hh md0)
   have c6:Zb 7 [.c (.ptr (n+13) 0),.c (.str [47,102,105,114,115,116]),.c (.int .u8 1)] hA (.tup [.c (.int .i64 2),.c (.int .i64 0)]) h6:=c6
   have b5:=(k6 hW.next oM oM).trans a5
   have Jf:=Yy Jf @a5
   iterate 14 (first|refine gZ Y9 ?_|refine Zo Hh (Zj Za c6) Y9 ?_|apply gS)
   refine Jo fun hB eB=>?_
   have nB:hB.next=h6.next+1:=nxQ eB
   have kB:∀ m,m<h6.next->hB.get m=h6.get m:=kQ eB
   have b9:hB.get h6.next=some (.row 12 [Sw B0] false):=by rw[eB]; exact Yn
   clear eB
   have B5:=(kB hW.next oM).trans b5
   have MB:=M6.keep (h2:=hB) oM (fun m hm=>kB m (by have:=M6.nx; omega))
   have x6:=M6.nx
   have arB:ArI h.next hB c A:=ar.keep fun p hp=>(kB p oM).trans ((k6 p oM oM).trans ((kA p oM).trans (kW p hp)))
   refine (Zyu Hh (n:=n) (b0:=h.next) (p5:=hW.next) (p9:=h6.next) md0 oM ⟨oM,oM,oM,oM⟩ A.length 0 q6 V6 B0 _ hB oM rfl dM MB T6 arB B5 b9 ⟨oM,oM,oM⟩ oM ?_ ?_ ?_ ?_ ?_ ?_).mono ?_
   ·exact Zf
   ·exact Zf
   ·exact Zf
   ·exact Zf
   ·exact Zf
   ·exact Zf
   rintro x1 d1 u1 h7 ⟨rfl,rfl,t5,t9,q7,V7,B7,Bl7,M7,T7,w5,w9,lt⟩
   have Jf:=Yy @t5 @t9
   iterate 4 (first|refine Zo Hh Za Zm ?_|apply gS)
   refine (Z2a Hh (n:=n) (p5:=hW.next) (p9:=h6.next) md0 Bl7 ⟨oM,oM⟩ 12 0 q7 V7 B7 _ h7 oM Bl7 (fun i hi=>absurd hi oM) (fun i _=>rfl) M7 T7 w5 w9 lt ?_ ?_ ?_).mono ?_
   ·have Jf:=@t5; exact Zm
   ·have Jf:=@t9; exact Zm
   ·exact Zf
   rintro x2 d2 u2 h8 ⟨rfl,rfl,t5',q8,V8,B8,M8,T8,v5,lt8⟩
   obtain⟨h9,q9,V9,c9,M9,T9,n9,k9⟩:=Zfy Hh md0 Zjb (l:=0) (s:=first5) M8 (fun _ hk=>hk) lt8 T8 oM dM (Zpw B8) (Za0 Hh)
   have c9:Zb 10 [.c (.ptr (n+13) 0),.c (.str [47,102,105,114,115,116])] h8 (.tup [.c (.int .i64 2),.c (.bool true),.c (.int .i64 0)]) h9:=c9
   apply Z6
   have Jf:=Ja @t5' @v5 @rd4
   iterate 4 (first|refine Zo Hh (Zj Za c9) Zr ?_|apply gS)
   exact⟨_,_,Zf,rfl⟩
 exact⟨h',cc⟩
end
open Go.Ev Go.ChangeShapes Go.WideShapes
section
variable (Hh:Hearts K Tryz.prog)
include Hh
theorem Zqh {W:World} {cs:Array Value} {t:TypeId} {fr:Nat × Nat} (hb:W.heap[1]? = some (.cells cs t fr)) (hcs:cs.toList=steps16.map (Value.int .u32)) (md:Int) (wf:(Lit.int .u8 md).wf=true) {v2:Value} (ok2:Znb W v2) :
  Calls Tryz.prog 3 #[.int .u8 md,v2] W fun e W'=>e=.returned (.bool true)/\Go.RowKit.Below W.heap.size W W':=by
 obtain⟨m0,m1⟩:=wf_u8 wf
 obtain⟨mo,rfl⟩:=Int.eq_ofNat_of_zero_le m0
 obtain⟨c2,A,a,la,k2,o2,l2,s2⟩:=ok2.ari 1
 have a2:ArI (Zak a none).next (Zak a none) c2 A:=by
  refine⟨l2,s2.imp id fun ⟨e,e2⟩=>⟨1,true,?_,e,?_⟩⟩
  ·unfold Zak; rw[Zbq,Zbq]; exact (by omega:1<3)
  ·subst e2
   unfold Zak
   rw[Zow _ _ oM]
   exact Zy ..
 have h0:(Zak a none).get 0=some Ot:=by
  unfold Zak
  rw[Zow _ _ oM,Zow _ _ oM]
  rfl
 have nx:(Zak a none).next=3:=by unfold Zak; rw[Zbq,Zbq]
 obtain⟨h',cc⟩:=Z2p Hh h0 oM a2 (mo:=mo) oM
 exact Znm (ρ:=Zrw la ⟨0,0,0⟩) (vals:=[.int .u8 (mo:Int),v2]) (Z3o hb hcs o2 (fun _ _ e=>by cases e)) (by rw[nx]; exact Zzf la ⟨0,0,0⟩) (fun n o e=>Zi7 e) cc ⟨rfl,k2 _ rfl,trivial⟩
end
end
end Go.Proofs.YtmanipmhebgdbaaGreatDoor
