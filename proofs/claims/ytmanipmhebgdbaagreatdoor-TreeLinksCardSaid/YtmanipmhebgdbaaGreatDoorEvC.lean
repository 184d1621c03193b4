/- The evaluator, its soundness and the calculus on its level: several texts in one. -/
import Derived.Test.YtmanipmhebgdbaaGreatDoorEvB
import Derived.Below
import Derived.OpenShut
import Derived.MakeChecks
import Derived.ChangeArms
import Derived.FnData
import Derived.Attr
import Derived.DefersIn
import Derived.WideShapes
set_option linter.unusedSimpArgs false
set_option linter.unusedVariables false
set_option linter.unusedSectionVars false
namespace Go.Ev
open Go.RowKit Go.Maps
section
variable {K:Cfg} {P:Program} {ρ:Ren} {h h':H} {w w':World}
theorem Rep.newAt (hr:Rep K ρ h w) (hn:ρ h.next=none) (o:O) (g room:Nat) (hg:w.heap.size<=g) (hk:∀ k,k<w.heap.size->w'.heap[k]? = w.heap[k]?) (hs:w.heap.size<=w'.heap.size)
  (hor:Br (ρ.set h.next ⟨g,0,room⟩) w' o ⟨g,0,room⟩) (h1:w'.os=w.os) (h2:w'.tape=w.tape) (h3:w'.output=w.output) (hro:o.ro=false:=by rfl) :
  Aft K ρ h w (ρ.set h.next ⟨g,0,room⟩) (h.new o) w':=by
 have hle:Ren.le ρ (ρ.set h.next ⟨g,0,room⟩):=Ren.Wv hn _
 have hold:∀ m x,m≠h.next->(h.new o).get m=some x->∃ lm,ρ m=some lm/\Br ρ w x lm:=fun m x hm hx=>by
  rw[H.Zq,if_neg hm] at hx
  exact hr.obj m x hx
 refine⟨hle,New.set _ _ _,⟨fun g n hg=>?_,fun m x hx=>?_,fun m m' x x' lm lm' hne hx hx' hlm hlm'=>?_⟩,⟨h1,h2,h3,hs,fun k hk' _=>hk k hk',fun k hm=>?_,fun m x hx hxr=>?_⟩,Nat.le_succ _⟩
 ·obtain⟨r,hr'⟩:=hr.glob g n hg
  exact⟨r,hle _ _ hr'⟩
 ·by_cases e:m=h.next
  ·subst e
   rw[H.Zq,if_pos rfl] at hx
   cases hx
   exact⟨_,Ren.Y8 _ _ _,hor⟩
  ·obtain⟨lm,hlm,hrm⟩:=hold m x e hx
   exact⟨lm,hle _ _ hlm,(hrm.mono hle).congr (hk _ hrm.lt)⟩
 ·by_cases e:m=h.next
  ·subst e
   rw[Ren.Y8] at hlm
   cases hlm
   obtain⟨l2,hl2,hr2⟩:=hold m' x' (fun e=>hne e.symm) hx'
   rw[Ren.Lv _ _ (fun e=>hne e.symm),hl2] at hlm'
   cases hlm'
   have:=hr2.lt
   intro _
   simp only
   omega
  ·obtain⟨l1,hl1,hr1⟩:=hold m x e hx
   rw[Ren.Lv _ _ e,hl1] at hlm
   cases hlm
   by_cases e':m'=h.next
   ·subst e'
    rw[Ren.Y8] at hlm'
    cases hlm'
    have:=hr1.lt
    intro _
    simp only
    omega
   ·obtain⟨l2,hl2,hr2⟩:=hold m' x' e' hx'
    rw[Ren.Lv _ _ e',hl2] at hlm'
    cases hlm'
    rw[H.Zq,if_neg e] at hx
    rw[H.Zq,if_neg e'] at hx'
    exact hr.inj m m' x x' _ _ hne hx hx' hl1 hl2
 ·obtain⟨m,x,lm,hx,hxr,hlm,hkm⟩:=hm
  by_cases e:m=h.next
  ·subst e
   rw[Ren.Y8] at hlm
   cases hlm
   exact .inl (by simp only at hkm; omega)
  ·rw[H.Zq,if_neg e] at hx
   rw[Ren.Lv _ _ e] at hlm
   exact .inr ⟨m,x,lm,hx,hxr,hlm,hkm⟩
 ·rw[H.Zq] at hx
  split at hx
  ·cases hx
   rw[hro] at hxr
   cases hxr
  ·exact hx
theorem Rep.stay (hr:Rep K ρ h w) (hk:∀ k,k<w.heap.size->w'.heap[k]? = w.heap[k]?) (hs:w.heap.size<=w'.heap.size) (h1:w'.os=w.os) (h2:w'.tape=w.tape) (h3:w'.output=w.output):Aft K ρ h w ρ h w':=by
 refine⟨Ren.le.refl _,New.refl _ _ _,⟨hr.glob,fun m x hx=>?_,hr.inj⟩,⟨h1,h2,h3,hs,fun k hk' _=>hk k hk',fun k hm=>.inr hm,fun m x hx _=>hx⟩,Nat.le_refl _⟩
 obtain⟨lm,hlm,hrm⟩:=hr.obj m x hx
 exact⟨lm,hlm,hrm.congr (hk _ hrm.lt)⟩
theorem Zfd (a:Int):∀ l:List Int,(Zdu a l).Perm (a :: l)
 | []=>List.Perm.refl _
 | b :: l=>by
  unfold Zdu
  split
  ·exact List.Perm.refl _
  ·exact ((Zfd a l).cons b).trans (List.Perm.swap a b l)
theorem Zgo (a:Int):∀ l:List Int,l.Pairwise (· <= ·)->(Zdu a l).Pairwise (· <= ·)
 | [],_=>by simp [Zdu]
 | b :: l,hl=>by
  unfold Zdu
  have hb:=List.pairwise_cons.1 hl
  split
  ·rename_i hab
   refine List.pairwise_cons.2 ⟨fun x hx=>?_,hl⟩
   rcases List.mem_cons.1 hx with rfl|hx
   ·exact hab
   ·exact Int.le_trans hab (hb.1 x hx)
  ·rename_i hab
   refine List.pairwise_cons.2 ⟨fun x hx=>?_,Zgo a l hb.2⟩
   rcases List.mem_cons.1 ((Zfd a l).mem_iff.1 hx) with rfl|hx
   ·omega
   ·exact hb.1 x hx
def Zam (e:MapEntry):Int:=match e.key with
 | .int _ n=>n
 | _=>0
theorem Vr:∀ (es:List (W × W)) (l:List Int) (xs:List MapEntry),Ep es=some l->Yp (Zgx ρ) es xs ->
  l.Pairwise (· <= ·)/\l.Perm (xs.map Zam)/\∀ e∈xs,∃ a:Int,e.key=.int .i64 a/\Rt a=true
 | [],l,[],hl,_=>by
  cases hl
  exact⟨List.Pairwise.nil,List.Perm.refl _,fun e he=>by cases he⟩
 | [],_,_ :: _,_,h=>h.elim
 | _ :: _,_,[],_,h=>h.elim
 | (k,v) :: es,l,x :: xs,hl,hx=>by
  unfold Ep at hl
  split at hl
  ·rename_i e
   cases e
  ·rename_i a v' es' e
   cases e
   cases hf:Rt a with
   | false=>rw[hf] at hl; cases hl
   | true =>
    rw[hf] at hl
    simp only[cond_true] at hl
    split at hl
    ·cases hl
    ·rename_i r hr
     cases hl
     obtain⟨p1,p2,p3⟩:=Vr es r xs hr hx.2
     have hk:x.key=.int .i64 a:=hx.1.1
     refine⟨Zgo a r p1,?_,fun e he=>?_⟩
     ·refine (Zfd a r).trans ?_
      rw[List.map_cons]
      have:Zam x=a:=by simp [Zam,hk]
      rw[this]
      exact p2.cons a
     ·rcases List.mem_cons.1 he with rfl|he
      ·exact⟨a,hk,hf⟩
      ·exact p3 e he
  ·cases hl
theorem insert_perm {H:Type} (x:Lit × DataW H):∀ l:List (Lit × DataW H),(DataW.insert x l).Perm (x :: l)
 | []=>List.Perm.refl _
 | y :: r=>by
  unfold DataW.insert
  split
  ·exact List.Perm.refl _
  ·exact ((insert_perm x r).cons y).trans (List.Perm.swap x y r)
theorem Tu {H:Type}:∀ l:List (Lit × DataW H),(l.foldr DataW.insert []).Perm l
 | []=>List.Perm.refl _
 | x :: l=>(insert_perm x _).trans ((Tu l).cons x)
theorem Zw6 (P:Program) (k:TypeId) (hk:P.underlying k=some (.int .i64)) {b clock:Nat} {xs:Array MapEntry} (hb:w.heap[b]? = some (.map xs clock)) (hborn:Born xs.toList clock) (hn:xs.size<=1000000)
  (hkeys:∀ e∈xs.toList,∃ a:Int,e.key=.int .i64 a/\Rt a=true) :
  ∃ D:DataW Nat,w.ownsMap P k (fun _=>some (.nil,[])) b xs.size D/\Maps.size D=xs.size/\(Go.intKeys D).Perm (xs.toList.map Zam):=by
 have hrd:∀ e∈xs.toList,WideElems.rd P k (fun _=>some ((.nil,[]):DataW Nat × List MemPlace)) e=some (.int .i64 (Zam e),.nil):=by
  intro e he
  obtain⟨a,ha,hf⟩:=hkeys e he
  have hwf:(Lit.int .i64 a).wf=true:=by
   simp [Rt] at hf
   simp [Lit.wf,IntKind.min,IntKind.max,IntKind.signed,IntKind.bits]
   omega
  simp [WideElems.rd,ha,keyOf,hk,mapKey,hwf,Zam]
 have hrg:xs.toList.map (WideElems.rg P k (fun _=>some ((.nil,[]):DataW Nat × List MemPlace)))=xs.toList.map (fun e=>(Lit.int .i64 (Zam e),(.nil:DataW Nat))):=by
  apply List.map_congr_left
  intro e he
  simp [WideElems.rg,hrd e he]
 have hp:=Tu (xs.toList.map (fun e=>(Lit.int .i64 (Zam e),(.nil:DataW Nat))))
 have hml:xs.size<=maxLen:=Nat.le_trans hn dM
 refine⟨_,⟨xs,clock,hb,⟨hml,⟨hborn.old,?_⟩,fun x hx=>⟨_,hrd x hx⟩⟩,Nat.le_refl _,rfl⟩,?_,?_⟩
 ·refine⟨List.pairwise_map.2 (hborn.up.imp fun h e=>?_),List.pairwise_map.2 (hborn.apart.imp_of_mem fun {x y} hx hy h e=>?_)⟩
  ·rw[e] at h
   exact Nat.lt_irrefl _ h
  ·obtain⟨p,hp,_⟩:=hkeys x hx
   exact h _ _ hp (e.symm.trans hp)
 ·rw[hrg,Maps.size_eq,hp.length_eq,List.length_map,Array.length_toList]
 ·rw[hrg]
  refine (hp.map _).trans ?_
  rw[List.map_map]
  exact List.Perm.refl _
structure SortC (P:Program) (f:FuncId):Prop where
 call:Ou P f
 lay:∃ r:Go.Shelf.Ren,Go.Proofs.SlLaysZI.n6 P r/\r.f 6=f/\Go.Proofs.AnyZI.SortsIn P r Fence.wide 3/\∀ args w,(callFunc (r.f 9) args).run P w=.ok (.enter (r.f 9) args) w
structure KeysC (P:Program) (g:FuncId):Prop where
 lay:∃ r:Go.Shelf.Ren,Go.Proofs.SlLaysZI.n10 P r/\r.f 10=g/\∀ args w,(callFunc g args).run P w=.ok (.enter g args) w
theorem Zfu {f g:FuncId} (c:SortC P f) (eg:∀ args w,(callFunc g args).run P w=.ok (.enter g args) w) {lb:Array Value} {S:List Int->Prop} {N:Nat} (hN:N<=1000000) (hs:SeqGives Fence.wide 1 P g lb Go.encZ S N w) {r:Option Nat} {m:Nat} :
  CallsIn (Wd r) m P f #[.func (.func g) #[] lb] w fun e w'=>∃ (v:Value) (ss:List Int) (t:TypeId),e=.returned v/\S ss /\
   w'.ownsRow w.heap.size t 1 v ss.length ((ss.mergeSort (fun x y=>decide (x<=y))).map Go.encZ)/\(v=.slice none 0 0 ↔ ss=[])/\Below w.heap.size w w':=by
 obtain⟨q,L,rfl,hsort,e9⟩:=c.lay
 have hml:N<=maxLen:=Nat.le_trans hN dM
 refine Si (callsIn_wide.1 ((Go.Proofs.AnyZI.sorted_in L Fence.wide 4 trivial trivial trivial trivial rfl (Nat.le_refl _) hsort e9 g lb trivial eg S N hml oM w hs).mono ?_))
 rintro e w' ⟨v,ss,he,h1,h2,h3,h4⟩
 exact⟨v,ss,_,he,h1,h2,h3,h4⟩
theorem Z8g {l ss:List Int} (hl:l.Pairwise (· <= ·)) (hp:ss.Perm l):ss.mergeSort (fun x y=>decide (x<=y))=l:=by
 refine List.Perm.eq_of_pairwise (le:=(· <= ·)) (fun a b _ _ h1 h2=>Int.le_antisymm h1 h2) ?_ hl ((List.mergeSort_perm _ _).trans hp)
 exact (List.pairwise_mergeSort (le:=fun x y:Int=>decide (x<=y)) (fun a b c h1 h2=>by simp at *; omega) (fun a b=>by simp; omega) ss).imp (fun h=>by simpa using h)
theorem Zui {l ss:List Int} (hl:l.Pairwise (· <= ·)) (hp:ss.Perm l) (hne:l≠[]) (hr:Rep K ρ h w) (hd:Dom ρ h.next) {v:Value} {t:TypeId}
  (ho:w'.ownsRow w.heap.size t 1 v ss.length ((ss.mergeSort (fun x y=>decide (x<=y))).map Go.encZ)) (hb:Below w.heap.size w w') :
  R9 K ρ h w (.w (.c (.slice h.next 0 l.length 1))) (h.new (.row 1 (l.map fun i=>[.int .i64 i]) false)) (.returned v) w':=by
 rw[Z8g hl hp] at ho
 have hlen:=hp.length_eq
 rcases ho.2 with ⟨_,h0⟩|⟨g,cap,cur,rfl,hg,hh,h1,h2,h3,h4⟩
 ·exact absurd (List.eq_nil_of_length_eq_zero (hlen ▸ h0)) hne
 ·rw[hlen] at h1 h4 ⊢
  refine⟨_,_,rfl,hr.newAt (hd _ (Nat.le_refl _)) _ g cap hg hb.block hb.size ?_ hb.os hb.tape hb.output,?_⟩
  ·refine⟨cur,t,(0,0),hh,by simpa using h3,fun _=>.inl rfl,fun x hx=>?_,fun k c hc=>?_⟩
   ·obtain⟨i,_,rfl⟩:=List.mem_map.1 hx
    rfl
   ·unfold read1 at hc
    simp only[Nat.div_one,Nat.mod_one] at hc
    split at hc
    ·cases hc
    ·rename_i e he
     rw[List.getElem?_map] at he
     cases hi:l[k]? with
     | none=>rw[hi] at he; cases he
     | some i =>
      rw[hi] at he
      cases he
      cases hc
      refine⟨.int .i64 i,?_,rfl⟩
      have hk:k<l.length:=(List.getElem?_eq_some_iff.1 hi).1
      have:(cur.toList.take (l.length * 1))[k]? = some (Go.encZ i):=by rw[h4,List.getElem?_map,hi]; rfl
      rw[List.getElem?_take_of_lt oM,Array.getElem?_toList] at this
      simpa using this
  ·exact⟨_,_,cap,Ren.Y8 _ _ _,rfl,.inr ⟨rfl,h1,by simp⟩⟩
theorem Zzn {f:FuncId} (c:SortC P f) (kc:∀ g,K.keys.contains g=true->KeysC P g) {args:List W} {v:V} (hv:Ny K h args=some (.val v h')) {vals:List Value} {r:Option Nat} {m:Nat} (hr:Rep K ρ h w) (hd:Dom ρ h.next) (ha:Yp (Jw ρ) args vals):CallsIn (Wd r) m P f vals.toArray w (R9 K ρ h w v h'):=by
 unfold Ny at hv
 split at hv
 ·rename_i g a off
  cases hb:K.keys.contains g with
  | false=>rw[hb] at hv; cases hv
  | true =>
   rw[hb] at hv
   simp only[cond_true] at hv
   split at hv
   ·rename_i sz els ro ho
    obtain⟨u,rfl,hu⟩:=Nj ha
    obtain⟨fa,ca,rfl,q1,q2⟩:=hu
    have hfa:fa = #[]:=by
     cases hfl:fa.toList with
     | nil=>exact Array.toList_eq_nil_iff.1 hfl
     | cons x y=>rw[hfl] at q1; exact q1.elim
    subst hfa
    obtain⟨cv,hcv,hcp⟩:=Nj q2
    obtain⟨la,hla,rfl⟩:=hcp
    have hca:ca = #[.pointer (some (la.at off))]:=by
     apply Array.toList_inj.1
     rw[hcv]
    subst hca
    obtain⟨la',hla',cs,t,fr,hcell,hsz,hfr,hw,hrd⟩:=hr.obj a _ ho
    rw[hla] at hla'
    cases hla'
    obtain⟨rk,LK,rfl,eg⟩:=(kc g hb).lay
    have hBm:la.blk<w.heap.size:=(Array.getElem?_eq_some_iff.1 hcell).1
    unfold Zek at hv
    split at hv
    ·
     rename_i hc1
     cases hv
     obtain⟨cv,hcv1,hcv2⟩:=hrd off _ hc1
     have e:cv=.map none:=hcv2
     subst e
     have hm:w.cell? (la.at off)=some (.map none):=by simp [World.cell?,Loc.at,hcell,hcv1]
     refine (Zfu c eg (N:=0) oM (Go.Proofs.EvKeys.Zyq LK Fence.wide 1 trivial rfl la.blk (la.base+off) w hBm hm)).mono ?_
     rintro e w' ⟨v,ss,t,rfl,rfl,h2,h3,h4⟩
     refine⟨ρ,v,rfl,hr.stay h4.block h4.size h4.os h4.tape h4.output,?_⟩
     rw[h3.2 rfl]
     rfl
    ·rename_i n hc1
     split at hv
     ·rename_i es hes
      obtain⟨cv,hcv1,lm,hlm,rfl⟩:=hrd off _ hc1
      have hm:w.cell? (la.at off)=some (.map (some lm.blk)):=by simp [World.cell?,Loc.at,hcell,hcv1]
      obtain⟨lm',hlm',xs,clock,hxb,hxs,hborn⟩:=hr.obj n _ hes
      rw[hlm] at hlm'
      cases hlm'
      unfold Zft at hv
      split at hv
      ·rename_i hsk
       cases hv
       obtain⟨p1,p2,p3⟩:=Vr es [] xs.toList hsk hxs
       have hx0:xs.toList=[]:=by
        have:=p2.length_eq
        simp at this
        simpa using this.symm
       have hsz0:xs.size=0:=by rw[<-Array.length_toList,hx0]; rfl
       obtain⟨D,d1,d2,d3⟩:=Zw6 P (rk.t 26) LK.t26 hxb hborn oM p3
       refine (Zfu c eg (N:=Maps.size D) oM (Go.Proofs.EvKeys.gives LK Fence.wide 1 trivial rfl (Nat.le_refl _) la.blk (la.base+off) lm.blk _ D w hBm hm d1)).mono ?_
       rintro e w' ⟨v,ss,t,rfl,hss,h2,h3,h4⟩
       refine⟨ρ,v,rfl,hr.stay h4.block h4.size h4.os h4.tape h4.output,?_⟩
       have hs0:ss=[]:=by
        have:=(hss.trans d3).length_eq
        rw[hx0] at this
        exact List.eq_nil_of_length_eq_zero this
       rw[h3.2 hs0]
       rfl
      ·rename_i l hne hsk
       cases hb2:Nat.ble l.length 1000000 with
       | false=>rw[hb2] at hv; cases hv
       | true =>
        rw[hb2] at hv
        cases hv
        have hle:=U2 hb2
        obtain⟨p1,p2,p3⟩:=Vr es l xs.toList hsk hxs
        have hll:=p2.length_eq
        rw[List.length_map] at hll; have hxl:xs.toList.length=xs.size:=Array.length_toList
        obtain⟨D,d1,d2,d3⟩:=Zw6 P (rk.t 26) LK.t26 hxb hborn oM p3
        refine (Zfu c eg (N:=Maps.size D) oM (Go.Proofs.EvKeys.gives LK Fence.wide 1 trivial rfl (Nat.le_refl _) la.blk (la.base+off) lm.blk _ D w hBm hm d1)).mono ?_
        rintro e w' ⟨v,ss,t,rfl,hss,h2,h3,h4⟩
        exact Zui p1 ((hss.trans d3).trans p2.symm) (fun e=>hne e) hr hd h2 h4
      ·cases hv
     ·cases hv
    ·cases hv
   ·cases hv
 ·cases hv
end
open Go.RowKit
def atO {α:Type} (p:Nat->α->Prop) (o:Nat):Option α->Prop
 | some x=>p o x
 | none=>True
def Tree.Zm9 {α:Type} (p:Nat->α->Prop):Tree α->Nat->Nat->Prop
 | .nil,_,_=>True
 | .node v l r,m,o=>atO p o v/\l.Zm9 p (2 * m) (o+m)/\r.Zm9 p (2 * m) (o+2 * m)
theorem Tree.Zm9.get {α:Type} {p:Nat->α->Prop}:∀ {t:Tree α} {m o:Nat},t.Zm9 p m o->∀ k x,t.get k=some x->p (o+m * k) x
 | .nil,_,_,_,k,x,h=>by rw[Tree.Es] at h; cases h
 | .node v l r,m,o,⟨h1,h2,h3⟩,k,x,h=>by
  rw[Tree.Gv] at h
  split at h
  ·rename_i e
   subst e
   rw[h] at h1
   have h2:p o x:=h1
   simpa using h2
  ·rename_i e
   split at h
   ·rename_i e2
    have:=h2.get _ _ h
    have e3:o+m+2 * m * (k / 2)=o+m * k:=by
     have:k=2 * (k / 2)+1:=oM
     conv=>rhs; rw[this]
     rw[Nat.mul_add,<-Nat.mul_assoc,Nat.mul_comm m 2]
     omega
    rwa [e3] at this
   ·rename_i e2
    have:=h3.get _ _ h
    have e3:o+2 * m+2 * m * (k / 2 - 1)=o+m * k:=by
     obtain⟨q,hq⟩:∃ q,k=2 * q+2:=⟨k / 2 - 1,oM⟩
     have hq2:k / 2 - 1=q:=oM
     rw[hq2,hq,Nat.mul_add,<-Nat.mul_assoc,Nat.mul_comm m 2]
     omega
    rwa [e3] at this
def Tree.Zp0 {α:Type} (p:Nat->α->Bool) (t:Tree α):Nat->Nat->Bool:=match t with
 | .nil=>fun _ _=>true
 | .node v l r=>fun m o=>(match v with|some x=>p o x|none=>true)&&l.Zp0 p (2 * m) (o+m)&&r.Zp0 p (2 * m) (o+2 * m)
theorem Tree.Zc4 {α:Type} {p:Nat->α->Bool}:∀ {t:Tree α} {m o:Nat},t.Zp0 p m o=true->t.Zm9 (fun i x=>p i x=true) m o
 | .nil,_,_,_=>trivial
 | .node v l r,m,o,h=>by
  unfold Tree.Zp0 at h
  rw[aQ,aQ] at h
  refine⟨?_,Tree.Zc4 h.1.2,Tree.Zc4 h.2⟩
  cases v with
  | none=>trivial
  | some x=>exact h.1.1
def Ztr (ti:TI):Option TypeInfo->Bool
 | some i=>Nat.beq i.size ti.size&&Nat.beq i.bytes ti.bytes&&(match i.zero with
  | some z=>(match Zex z with
   | some u=>eqV u (.w ti.zero)
   | none=>false)
  | none=>false)
 | none=>false
def Zdk (P:Program):List Field->Bool
 | []=>true
 | f :: l=>(P.info? f.type).isSome&&Zdk P l
def Zhp (P:Program):TypeDesc->Bool
 | .slice e=>(P.info? e).isSome
 | .struct fs=>Zdk P fs.toList
 | _=>true
def Z8r (P:Program) (t:Nat) (ti:TI):Bool :=
 Ztr ti (P.info? t)&&(ti.agg == ti.desc.isRow)&&Nat.beq ti.zero.cells.length ti.size&&Zhp P ti.desc&&(!ti.plain || (!P.stoodInHeld t&&!P.eqGuardType P.depth t))
def Ztx (_:Nat) (fn:Func):Bool:=!(fn.name == "runtime.NumGoroutine")
theorem Zdl {P:Program}:∀ {l:List Field},Zdk P l=true->∀ f∈l,∃ i,P.info? f.type=some i
 | [],_,f,hf=>by cases hf
 | g :: l,h,f,hf=>by
  unfold Zdk at h
  rw[aQ] at h
  rcases List.mem_cons.1 hf with rfl|hf
  ·exact Option.isSome_iff_exists.1 h.1
  ·exact Zdl h.2 f hf
theorem Z6s {K:Cfg} {P:Program} (hm:P.follows .mixedOrders=true) (hf:K.funcs.Zm9 (fun i fn=>P.funcs[i]? = some fn) 1 0) (hn:K.funcs.Zp0 Ztx 1 0=true)
  (hu:K.types.Zm9 (fun i ti=>P.underlying i=some ti.desc) 1 0) (ht:K.types.Zp0 (Z8r P) 1 0=true):Fits K P:=by
 have ht':∀ t ti,K.types.get t=some ti->Z8r P t ti=true:=fun t ti h=>by
  have:=(Tree.Zc4 ht).get t ti h
  simpa using this
 have ht2:∀ t ti,K.types.get t=some ti->Ztr ti (P.info? t)=true/\ti.agg=ti.desc.isRow/\ti.zero.cells.length=ti.size/\Zhp P ti.desc=true/\(ti.plain=true->P.stoodInHeld t=false/\P.eqGuardType P.depth t=false):=fun t ti h=>by
  have:=ht' t ti h
  unfold Z8r at this
  simp only[aQ,Bool.or_eq_true,beq_iff_eq,Bool.not_eq_true'] at this
  obtain⟨⟨⟨⟨h1,h2⟩,h3⟩,h4⟩,h5⟩:=this
  refine⟨h1,h2,bQ h3,h4,fun hp=>?_⟩
  rcases h5 with h5|h5
  ·rw[hp] at h5; cases h5
  ·exact h5
 refine⟨fun f fn h=>?_,fun f fn h e=>?_,hm,fun t ti h=>?_,fun t ti h=>?_,fun t ti h=>(ht2 t ti h).2.1,fun t ti h=>(ht2 t ti h).2.2.1,fun t ti el h e=>?_,fun t ti fs h e=>?_,fun t ti h=>(ht2 t ti h).2.2.2.2⟩
 ·have:=hf.get f fn h
  simpa using this
 ·have:=(Tree.Zc4 hn).get f fn h
  unfold Ztx at this
  rw[e] at this
  simp at this
 ·have:=hu.get t ti h
  simpa using this
 ·have h1:=(ht2 t ti h).1
  unfold Ztr at h1
  split at h1
  ·rename_i i hi
   simp only[aQ] at h1
   obtain⟨⟨a,b⟩,c⟩:=h1
   split at c
   ·rename_i z hz
    split at c
    ·rename_i u hu
     have e:=Z1y c
     subst e
     exact⟨i,hi,bQ a,bQ b,z,hz,fun ρ=>Zpz ρ hu⟩
    ·cases c
   ·cases c
  ·cases h1
 ·have h4:=(ht2 t ti h).2.2.2.1
  rw[e] at h4
  exact Option.isSome_iff_exists.1 h4
 ·have h4:=(ht2 t ti h).2.2.2.1
  rw[e] at h4
  exact Zdl h4
open Go.RowKit
def isTrue:Option Out->Bool
 | some (.val (.w (.c (.bool true))) _)=>true
 | _=>false
theorem Zre {o:Option Out} (h:isTrue o=true):∃ h',o=some (.val (.w (.c (.bool true))) h'):=by
 unfold isTrue at h
 split at h
 ·exact⟨_,rfl⟩
 ·cases h
def steps16:List Int:=[0,498536548,997073096,651767980,1994146192,1802195444,1303535960,1342533948,3988292384,4027552580,3604390888,3412177804,2607071920,2262029012,2685067896,3183342108]
def Su:H:=⟨Tree.node (some (.row 16 [[.int .u32 0,.int .u32 498536548,.int .u32 997073096,.int .u32 651767980,.int .u32 1994146192,.int .u32 1802195444,.int .u32 1303535960,.int .u32 1342533948,.int .u32 3988292384,.int .u32 4027552580,.int .u32 3604390888,.int .u32 3412177804,.int .u32 2607071920,.int .u32 2262029012,.int .u32 2685067896,.int .u32 3183342108]] true)) .nil .nil,1⟩
def Vp (G:Nat):Ren:=fun n=>if n=0 then some ⟨G,0,16⟩ else none
theorem Ns {K:Cfg} {G:Nat} (hg:K.globs=Tree.set .nil G 0) {g n:Nat} (h:K.globs.get g=some n):g=G/\n=0:=by
 rw[hg,Tree.Zbi] at h
 split at h
 ·rename_i e
  cases h
  exact⟨e,rfl⟩
 ·rw[Tree.Es] at h; cases h
theorem Zdp {K:Cfg} {G:Nat} (hg:K.globs=Tree.set .nil G 0):K.globs.get G=some 0:=by rw[hg,Tree.Zbi,if_pos rfl]
theorem Fp {n:Nat} {o:O} (h:Su.get n=some o):n=0/\o=.row 16 [steps16.map (.int .u32)] true:=by
 have h':(Tree.node (some (O.row 16 [steps16.map (.int .u32)] true)) .nil .nil).get n=some o:=h
 rw[Tree.Gv] at h'
 split at h'
 ·rename_i e
  cases h'
  exact⟨e,rfl⟩
 ·split at h'<;>(rw[Tree.Es] at h'; cases h')
section
variable {K:Cfg} {P:Program} {W:World} {G:Nat}
theorem Zfs (hg:K.globs=Tree.set .nil G 0) {cs:Array Value} {t:TypeId} {fr:Nat × Nat} (hb:W.heap[G]? = some (.cells cs t fr)) (hcs:cs.toList=steps16.map (Value.int .u32)):Rep K (Vp G) Su W:=by
 refine⟨fun g n h=>?_,fun n o h=>?_,fun n n' o o' l l' hne h h' _ _=>?_⟩
 ·obtain⟨rfl,rfl⟩:=Ns hg h
  exact⟨16,rfl⟩
 ·obtain⟨rfl,rfl⟩:=Fp h
  refine⟨⟨G,0,16⟩,rfl,cs,t,fr,hb,?_,fun h=>(by cases h),fun x hx=>?_,fun k c hc=>?_⟩
  ·rw[<-Array.length_toList,hcs]
   rfl
  ·simp only[List.mem_singleton] at hx
   subst hx
   rfl
  ·unfold read1 at hc
   have hk:k / 16=0:=by
    rcases Nat.eq_zero_or_pos (k / 16) with e|e
    ·exact e
    ·obtain⟨q,hq⟩:∃ q,k / 16=q+1:=⟨k / 16 - 1,oM⟩
     rw[hq] at hc
     simp at hc
   have hk2:k % 16=k:=oM
   rw[hk,hk2] at hc
   simp only[List.getElem?_cons_zero,List.getElem?_map] at hc
   cases he:steps16[k]? with
   | none=>rw[he] at hc; cases hc
   | some z =>
    rw[he] at hc
    cases hc
    refine⟨.int .u32 z,?_,rfl⟩
    simp only[Nat.zero_add]
    rw[<-Array.getElem?_toList,hcs,List.getElem?_map,he]
    rfl
 ·obtain⟨rfl,_⟩:=Fp h
  obtain⟨rfl,_⟩:=Fp h'
  exact absurd rfl hne
theorem Z67 {H:Type} {enc:TypeId × Value->H} {base:Nat} {spare:Nat->Bool} {held:Bool} {fuel:Nat} {t e:TypeId} {n:Nat} {k:IntKind} {cs:List Value} {zs:List Int} {p:List MemPlace} (ht:P.underlying t=some (.array n e)) (he:P.underlying e=some (.int k)) (hc:P.cellsOf e=1) (hct:P.cellsOf t=n)
  (h:DataW.trod enc P W base spare held fuel t cs=some (.agg (zs.map fun z=>.lit (.int k z)),p)):cs=zs.map (Value.int k):=by
 obtain⟨xs,m,rfl,hx,hlen,hn,hel⟩:=DataW.trod_array ht h
 simp only[Prod.mk.injEq,DataW.agg.injEq] at hx
 have hzl:zs.length=n:=by
  have:=congrArg List.length hx.1
  simp at this
  omega
 apply List.ext_getElem?
 intro i
 rw[List.getElem?_map]
 by_cases hi:i<n
 ·have h1:=hel i hi
  rw[hc,Nat.mul_one] at h1
  have hix:i<xs.length:=oM
  rw[List.getElem?_eq_getElem hix] at h1
  obtain⟨z,e1,e2,_⟩:=DataW.trod_int he h1
  have hcs:cs[i]? = some (.int k z):=by
   have:=congrArg (fun l:List Value=>l[0]?) e1
   simpa [List.getElem?_take,List.getElem?_drop] using this
  have hz:zs[i]? = some z:=by
   have:=congrArg (fun l:List (DataW H)=>l[i]?) hx.1
   simp only[List.getElem?_map,List.getElem?_eq_getElem hix,Option.map_some,e2] at this
   cases hz:zs[i]? with
   | none=>rw[hz] at this; cases this
   | some y =>
    rw[hz] at this
    simp at this
    rw[this]
  rw[hcs,hz]
  rfl
 ·rw[List.getElem?_eq_none oM,List.getElem?_eq_none oM]
  rfl
theorem Zw2 {nm:String} {t e:TypeId} (hg:P.globalNamed nm=some G) (hgt:(P.globals[G]?).map (·.type)=some t) (ht:P.underlying t=some (.array 16 e)) (he:P.underlying e=some (.int .u32)) (hc:P.cellsOf e=1) (hct:P.cellsOf t=16)
  (h:laidMetH P [(nm,.agg (steps16.map fun z=>.lit (.int .u32 z)))] W):∃ cs t fr,W.heap[G]? = some (.cells cs t fr)/\cs.toList=steps16.map (Value.int .u32):=by
 rw[MakeChecks.laidMetH_plain _ _ _ rfl] at h
 obtain⟨ps,⟨g0,t0,cs0,f0,p0,q0,hg0,ht0,hv0,hd0,_,_⟩,_,_⟩:=h
 obtain rfl:=Option.some.inj (hg.symm.trans hg0)
 obtain rfl:=Option.some.inj (hgt.symm.trans ht0)
 have e1:=Z67 ht he hc hct hd0
 simp only[World.var?,hg,Option.bind_some] at hv0
 split at hv0
 ·rename_i cs t' fr hb
  cases hv0
  exact⟨_,_,_,hb,e1⟩
 ·cases hv0
end
open Go.RowKit
abbrev Kn:=FuncId->List W->H->Option (V × H)
noncomputable section
def Z9p (K:Cfg) (X:Kn) (ev:Task->Option Out) (t:Task):Option Out :=
 Task.rec (motive:=fun _=>Option Out)
  (fun f args h=>Option.rec (Ew K ev f args h) (fun p=>Prod.rec (fun v h'=>some (.val v h')) p) (X f args h))
  (fun c n rd ds ts h=>Zin K ev c n rd ds ts h) t
def evX (K:Cfg) (X:Kn) (f:Nat):Task->Option Out :=
 Nat.rec (motive:=fun _=>Task->Option Out) (fun _=>none) (fun _ ih=>Z9p K X ih) f
end
def Zu (K:Cfg) (P:Program) (f:FuncId) (args:List W) (h:H) (v:V) (h':H):Prop :=
 Ou P f/\∀ ρ w vals r m,Rep K ρ h w->Dom ρ h.next->Yp (Jw ρ) args vals->CallsIn (Wd r) m P f vals.toArray w (R9 K ρ h w v h')
def Zcj (K:Cfg) (P:Program) (X:Kn):Prop:=∀ f args h v h',X f args h=some (v,h')->Zu K P f args h v h'
section
variable {K:Cfg} {P:Program} {E:Task->Option Out} {X:Kn}
theorem Zr6 (F:Fits K P) (Hh:Hearts K P) (hX:Zcj K P X) (S:Sound K P E):Sound K P (Z9p K X E):=by
 have T:=Ml F Hh S (Zbc F S)
 refine⟨fun f args h v h' hv=>?_,fun c n rd ds ts h x ds' ts' h' hv=>T.code c n rd ds ts h x ds' ts' h' hv,fun t o hv=>?_⟩
 ·cases hx:X f args h with
  | none =>
   have hv':(Option.rec (Ew K E f args h) (fun p=>Prod.rec (fun v h'=>some (.val v h')) p) (X f args h):Option Out)=some (.val v h'):=hv
   rw[hx] at hv'
   exact T.call f args h v h' hv'
  | some p =>
   obtain⟨v1,h1⟩:=p
   have hv':(Option.rec (Ew K E f args h) (fun p=>Prod.rec (fun v h'=>some (.val v h')) p) (X f args h):Option Out)=some (.val v h'):=hv
   rw[hx] at hv'
   cases hv'
   exact hX f args h v h' hx
 ·cases t with
  | call f args h =>
   cases hx:X f args h with
   | none =>
    have hv':(Option.rec (Ew K E f args h) (fun p=>Prod.rec (fun v h'=>some (.val v h')) p) (X f args h):Option Out)=some o:=hv
    rw[hx] at hv'
    exact T.shape (.call f args h) o hv'
   | some p =>
    obtain⟨v1,h1⟩:=p
    have hv':(Option.rec (Ew K E f args h) (fun p=>Prod.rec (fun v h'=>some (.val v h')) p) (X f args h):Option Out)=some o:=hv
    rw[hx] at hv'
    cases hv'
    exact .inl ⟨_,_,_,_,_,rfl,rfl⟩
  | code c n rd ds ts h=>exact T.shape (.code c n rd ds ts h) o hv
theorem Er (F:Fits K P) (Hh:Hearts K P) (hX:Zcj K P X) (n:Nat):Sound K P (evX K X n):=by
 induction n with
 | zero=>exact⟨fun _ _ _ _ _ h=>(by cases h),fun _ _ _ _ _ _ _ _ _ _ h=>(by cases h),fun _ _ h=>(by cases h)⟩
 | succ n ih=>exact Zr6 F Hh hX ih
theorem Zqg (F:Fits K P) (Hh:Hearts K P) (hX:Zcj K P X) {G:Nat} (hg:K.globs=Tree.set .nil G 0) {W:World} {cs:Array Value} {t:TypeId} {fr:Nat × Nat} (hb:W.heap[G]? = some (.cells cs t fr)) (hcs:cs.toList=steps16.map (Value.int .u32))
  {f:FuncId} {args:List Ev.W} {n:Nat} (ht:isTrue (evX K X n (.call f args Su))=true) {vals:List Value} (ha:Yp (Jw (Vp G)) args vals) :
  Calls P f vals.toArray W fun e W'=>e=.returned (.bool true)/\Below W.heap.size W W':=by
 obtain⟨h',he⟩:=Zre ht
 have hd:Dom (Vp G) Su.next:=fun n hn=>by
  have:n≠0:=by have:1<=n:=hn; omega
  simp [Vp,this]
 have:=((Er F Hh hX n).call f args Su _ h' he).2 (Vp G) W vals none 0 (Zfs hg hb hcs) hd ha
 refine (callsIn_wide.1 (show CallsIn Fence.wide 0 P f vals.toArray W _ from this)).mono ?_
 rintro e W' ⟨ρ',val,rfl,aft,hv⟩
 have e:val=.bool true:=hv
 subst e
 refine⟨rfl,aft.fr.os,aft.fr.tape,aft.fr.output,aft.fr.size,fun k hk=>aft.fr.keep k hk ?_⟩
 rintro⟨m,o,l,ho,hro,_⟩
 obtain⟨rfl,rfl⟩:=Fp ho
 cases hro
end
open Go.RowKit
def Yg (K:Cfg) (P:Program) (n:Nat) (rd:Option Nat) (c:Code) (ds:List Nat) (ts:Zx) (h:H) (x:X) (ds':List Nat) (ts':Zx) (h':H):Prop :=
 ∀ D ρ w a r m,Rep K ρ h w->Dom ρ h.next->Gx ρ n ts a.tmps->Marks ρ D ds a.defers->RdR ρ rd r->c.wpIn (Wd r) m P (Zb3 K D ρ h w n x ds' ts' h') a w
section
variable {K:Cfg} {P:Program} {E:Task->Option Out} {X:Kn} {n:Nat} {rd:Option Nat} {ds ds1 ds2:List Nat} {ts ts1 ts2:Zx} {h h1 h2:H} {x:Ev.X} {b c:Code}
theorem Yg.ev (F:Fits K P) (Hh:Hearts K P) (hX:Zcj K P X) {k:Nat} (e:evX K X k (.code c n rd ds ts h)=some (.at x ds1 ts1 h1)):Yg K P n rd c ds ts h x ds1 ts1 h1 :=
 (Er F Hh hX k).code c n rd ds ts h x ds1 ts1 h1 e
theorem Yg.seq (a1:Yg K P n rd b ds ts h .normal ds1 ts1 h1) (a2:Yg K P n rd c ds1 ts1 h1 x ds2 ts2 h2):Yg K P n rd (.seq b c) ds ts h x ds2 ts2 h2:=by
 intro D ρ w a r m hr hd ht hm hrd
 refine wpIn_seq (wpIn_mono (a1 D ρ w a r m hr hd ht hm hrd) ?_)
 rintro e a1 w1 ⟨rfl,ρ1,aft1,tr1,mk1⟩
 show c.wpIn (Wd r) m P _ a1 w1
 refine wpIn_mono (a2 D ρ1 w1 a1 r m aft1.rep (aft1.dom hd) tr1 mk1 (hrd.mono aft1.le)) ?_
 rintro e a2 w2 ⟨rfl,ρ2,aft2,tr2,mk2⟩
 exact⟨rfl,ρ2,aft1.trans aft2,tr2,mk2⟩
theorem Yg.Zxa (hx:x≠.normal) (a1:Yg K P n rd b ds ts h x ds1 ts1 h1):Yg K P n rd (.seq b c) ds ts h x ds1 ts1 h1:=by
 intro D ρ w a r m hr hd ht hm hrd
 refine wpIn_seq (wpIn_mono (a1 D ρ w a r m hr hd ht hm hrd) ?_)
 rintro e a1 w1 ⟨rfl,rest⟩
 cases x with
 | normal=>exact absurd rfl hx
 | exit id=>exact⟨rfl,rest⟩
 | ret=>exact⟨rfl,rest⟩
theorem Yg.cond_true {o:Operand} (hc:Z4 K ts o=some (.bool true)) (a1:Yg K P n rd b ds ts h x ds1 ts1 h1):Yg K P n rd (.cond o b c) ds ts h x ds1 ts1 h1 :=
 fun D ρ w a r m hr hd ht hm hrd=>wpIn_cond_true ((Rc hr ht).c hc) (a1 D ρ w a r m hr hd ht hm hrd)
theorem Yg.cond_false {o:Operand} (hc:Z4 K ts o=some (.bool false)) (a1:Yg K P n rd c ds ts h x ds1 ts1 h1):Yg K P n rd (.cond o b c) ds ts h x ds1 ts1 h1 :=
 fun D ρ w a r m hr hd ht hm hrd=>wpIn_cond_false ((Rc hr ht).c hc) (a1 D ρ w a r m hr hd ht hm hrd)
theorem Yg.scope (a1:Yg K P n rd b ds ts h x ds1 ts1 h1):Yg K P n rd (.scope b) ds ts h x ds1 ts1 h1:=by
 intro D ρ w a r m hr hd ht hm hrd
 refine Zj9 (fun l a w=>?_) (a1 D ρ w a r m hr hd ht hm hrd)
 rintro⟨e,_⟩
 cases x<;>cases e
theorem Yg.label {l:Nat}:Yg K P n rd (.label l) ds ts h .normal ds ts h :=
 fun D ρ w a r m hr hd ht hm hrd=>wpIn_label ⟨rfl,ρ,Aft.refl hr,ht,hm⟩
theorem Yg.skip:Yg K P n rd .skip ds ts h .normal ds ts h :=
 fun D ρ w a r m hr hd ht hm hrd=>wpIn_skip ⟨rfl,ρ,Aft.refl hr,ht,hm⟩
theorem Yg.exit {id:Nat}:Yg K P n rd (.exit id) ds ts h (.exit id) ds ts h :=
 fun D ρ w a r m hr hd ht hm hrd=>wpIn_exit ⟨rfl,ρ,Aft.refl hr,ht,hm⟩
theorem Yg.ret:Yg K P n rd .ret ds ts h .ret ds ts h :=
 fun D ρ w a r m hr hd ht hm hrd=>wpIn_ret ⟨rfl,ρ,Aft.refl hr,ht,hm⟩
theorem Yg.block {id:Nat} (a1:Yg K P n rd b ds ts h .normal ds1 ts1 h1):Yg K P n rd (.block id b) ds ts h .normal ds1 ts1 h1:=by
 intro D ρ w a r m hr hd ht hm hrd
 refine wpIn_block (wpIn_mono (a1 D ρ w a r m hr hd ht hm hrd) ?_)
 rintro e a1 w1 ⟨rfl,rest⟩
 exact⟨rfl,rest⟩
theorem Yg.Zlj {id:Nat} (a1:Yg K P n rd b ds ts h .ret ds1 ts1 h1):Yg K P n rd (.block id b) ds ts h .ret ds1 ts1 h1:=by
 intro D ρ w a r m hr hd ht hm hrd
 refine wpIn_block (wpIn_mono (a1 D ρ w a r m hr hd ht hm hrd) ?_)
 rintro e a1 w1 ⟨rfl,rest⟩
 exact⟨rfl,rest⟩
theorem Yg.Zh6 {id:Nat} (a1:Yg K P n rd b ds ts h (.exit id) ds1 ts1 h1):Yg K P n rd (.block id b) ds ts h .normal ds1 ts1 h1:=by
 intro D ρ w a r m hr hd ht hm hrd
 refine wpIn_block (wpIn_mono (a1 D ρ w a r m hr hd ht hm hrd) ?_)
 rintro e a1 w1 ⟨rfl,rest⟩
 show Exit.inBlock id _ (.exit id) a1 w1
 simp only[Exit.inBlock,if_true]
 exact⟨rfl,rest⟩
theorem Zb3.ends {D:List Deferred} {ρ:Ren} {w:World} {e:Exit} {a:Act} {w':World} (hp:Zb3 K D ρ h w n x ds1 ts1 h1 e a w'):e=.normal\/(∃ id,e=.exit id)\/e=.ret:=by
 obtain⟨rfl,_⟩:=hp
 cases x with
 | normal=>exact .inl rfl
 | exit id=>exact .inr (.inl ⟨id,rfl⟩)
 | ret=>exact .inr (.inr rfl)
theorem Yg.loop (a1:Yg K P n rd b ds ts h .normal ds1 ts1 h1) (a2:Yg K P n rd (.loop b) ds1 ts1 h1 x ds2 ts2 h2):Yg K P n rd (.loop b) ds ts h x ds2 ts2 h2:=by
 intro D ρ w a r m hr hd ht hm hrd
 refine Ve (fun _ _ _ hp=>Zb3.ends hp) (wpIn_mono (a1 D ρ w a r m hr hd ht hm hrd) ?_)
 rintro e a1 w1 ⟨rfl,ρ1,aft1,tr1,mk1⟩
 show (Code.loop b).wpIn (Wd r) m P _ a1 w1
 refine wpIn_mono (a2 D ρ1 w1 a1 r m aft1.rep (aft1.dom hd) tr1 mk1 (hrd.mono aft1.le)) ?_
 rintro e a2 w2 ⟨rfl,ρ2,aft2,tr2,mk2⟩
 exact⟨rfl,ρ2,aft1.trans aft2,tr2,mk2⟩
theorem Yg.Zrh (hx:x≠.normal) (a1:Yg K P n rd b ds ts h x ds1 ts1 h1):Yg K P n rd (.loop b) ds ts h x ds1 ts1 h1:=by
 intro D ρ w a r m hr hd ht hm hrd
 refine Ve (fun _ _ _ hp=>Zb3.ends hp) (wpIn_mono (a1 D ρ w a r m hr hd ht hm hrd) ?_)
 rintro e a1 w1 ⟨rfl,rest⟩
 cases x with
 | normal=>exact absurd rfl hx
 | exit id=>exact⟨rfl,rest⟩
 | ret=>exact⟨rfl,rest⟩
theorem Zu.body (F:Fits K P) (Hh:Hearts K P) {f:FuncId} {fn:Func} {body:Code} {args:List W} {v:V} (hc:K.clones.contains f=false) (hs:K.sorted.lookup f=none) (hf:K.funcs.get f=some fn) (hb:fn.body=some body) (hn:Nat.ble args.length fn.ntmps=true)
  (hbody:Yg K P fn.ntmps none body [] (Ug 0 args .nil) h x ds1 ts1 h1) (hl:leave K fn (some (.at x ds1 ts1 h1))=some (.val v h2)):Zu K P f args h v h2:=by
 classical
 let E:Task->Option Out:=fun t=>if t=.code body fn.ntmps none [] (Ug 0 args .nil) h then some (.at x ds1 ts1 h1) else none
 have S:Sound K P E:=by
  refine⟨fun f args h v h' he=>?_,fun c n rd ds ts h x ds' ts' h' he=>?_,fun t o he=>?_⟩
  ·simp only[E] at he
   rw[if_neg (by intro e; cases e)] at he
   cases he
  ·simp only[E] at he
   split at he
   ·rename_i e
    cases e
    cases he
    exact hbody
   ·cases he
  ·simp only[E] at he
   split at he
   ·rename_i e
    cases e
    cases he
    exact .inr ⟨_,_,_,_,_,_,_,_,_,_,rfl,rfl⟩
   ·cases he
 have T:=Ml F Hh S (Zbc F S)
 refine T.call f args h v h2 ?_
 show Ew K E f args h=_
 unfold Ew
 rw[hc,hs]
 show enter K E args h (K.funcs.get f)=_
 rw[hf]
 unfold enter
 simp only[hb,hn,cond_true,E,if_true]
 exact hl
end
open Go.RowKit
section
variable {K:Cfg} {P:Program} {n:Nat} {rd:Option Nat} {ds ds1:List Nat} {ts ts' ts1 ts2:Zx} {h h1 h2:H} {x:Ev.X} {c:Code}
theorem Yg.congr (e:∀ i,Zg ts i=Zg ts' i) (a1:Yg K P n rd c ds ts h x ds1 ts1 h1):Yg K P n rd c ds ts' h x ds1 ts1 h1 :=
 fun D ρ w a r m hr hd ht hm hrd=>a1 D ρ w a r m hr hd ⟨ht.1,fun i=>by rw[e i]; exact ht.2 i⟩ hm hrd
end
open Go.RowKit
section
variable {K:Cfg} {X:Kn} {E:Task->Option Out} {n k:Nat} {rd:Option Nat} {ds:List Nat} {ts:Zx} {h:H} {all:List Oper}
theorem Zqv (d:Option Tmp) (op:Op) (t:TypeId) (p:String) (a:Array Edge):Zdi K E all n ts h ⟨d,op,t,p,a,none⟩=Qo n ts d (Uh K E ts h op):=rfl
theorem Zz (d:Tmp) (v:V) (hd:Nat.blt d n=true):Qo n ts (some d) (some (v,h))=some (ts.set d v,h):=by
 unfold Qo Tn
 simp only[hd,cond_true]
theorem Zt5 (v:V):Qo n ts none (some (v,h))=some (ts,h):=rfl
theorem Z0p (x:Operand):Uh K E ts h (.move x)=Tm h (Bf K ts x):=rfl
theorem Zsx (x:Operand):Uh K E ts h (.assign x)=Tm h (Bf K ts x):=rfl
theorem Zxu (op:BinOp) (t:TypeId) (x y:Operand) (u:TypeId):Uh K E ts h (.binOp op t x y u)=Gr h (binop K op t (evalW K ts x) (evalW K ts y)):=rfl
theorem Z0r (op:UnOp) (t:TypeId) (x:Operand):Uh K E ts h (.unOp op t x)=Gr h (Zsb op (Z4 K ts x)):=rfl
theorem Zp3 (s t:TypeId) (x:Operand):Uh K E ts h (.convert s t x)=Zjm K h (Nat.beq s t) (K.types.get s) (Z4 K ts x) (Zjl K h (K.types.get s) (K.types.get t) (Z4 K ts x) (Du h (K.types.get s) (K.types.get t) (Z4 K ts x))):=rfl
theorem Zrr (b:Bool) (s:Option TI) (c:Option C) (r:V × H):Zjm K h b s c (some r)=some r:=rfl
theorem Zrq (b:Bool) (s:Option TI) (c:Option C):Zjm K h b s c none=bif b then Zdf K h s c else none:=rfl
theorem Zrp (s t:Option TI) (c:Option C) (r:V × H):Zjl K h s t c (some r)=some r:=rfl
theorem Zro (s t:Option TI) (c:Option C):Zjl K h s t c none=Me K h s t c:=rfl
theorem Z0o (t:TypeId) (x:Operand):Uh K E ts h (.load t x)=Zfk K h t (Z4 K ts x):=rfl
theorem Zx1 (t:TypeId) (x y:Operand):Uh K E ts h (.store t x y)=Zbo K h t (Z4 K ts x) (evalW K ts y):=rfl
theorem Zk1 (t:TypeId) (x i:Operand):Uh K E ts h (.indexAddr t x i)=Gr h (Bj K (K.types.get t) (Z4 K ts x) (Oh (Z4 K ts i))):=rfl
theorem Zxx (t:TypeId) (x i:Operand):Uh K E ts h (.index t x i)=Ma h (Nc K (K.types.get t) (evalW K ts x) (Oh (Z4 K ts i))):=rfl
theorem Zp2 (b:Builtin) (args:Array Operand) (tys:Array TypeId):Uh K E ts h (.call ⟨.builtin b,args,tys⟩)=Gb K h b tys.toList (Gq K ts args.toList):=rfl
theorem Z55 (tys:List TypeId) (args:Option (List W)):Gb K h .len tys args=Zt K h .len tys args:=rfl
theorem Zs3 (tys:List TypeId) (args:Option (List W)):Gb K h .append tys args=Zt K h .append tys args:=rfl
theorem Zs4 (tys:List TypeId) (args:Option (List W)):Gb K h .delete tys args=Zt K h .delete tys args:=rfl
theorem Zx3 (tys:List TypeId) (args:Option (List W)):Gb K h .clear tys args=Zt K h .clear tys args:=rfl
theorem Z57 (tys:List TypeId) (args:Option (List W)):Gb K h .min tys args=Zt K h .min tys args:=rfl
theorem Z56 (tys:List TypeId) (args:Option (List W)):Gb K h .max tys args=Zt K h .max tys args:=rfl
theorem Z07 (tys:List TypeId) (args:Option (List W)):Gb K h .copy tys args=Zd2 K h tys args:=rfl
theorem Z0n (f:Operand) (args:Array Operand) (tys:Array TypeId):Uh K E ts h (.call ⟨.value f,args,tys⟩)=Zme (Sk E h (Gq K ts args.toList) (Z4 K ts f)):=rfl
theorem Ya (t:Tmp):Bf K ts (.tmp t)=some (Zg ts t):=rfl
theorem Zqx (v:Value):Bf K ts (.const v)=Zex v:=rfl
theorem Ztg (f:FuncId):Bf K ts (.func f)=some (.w (.c (.fn f [] []))):=rfl
end
open Go.RowKit
def Ybm (σ:Nat->Nat):Option (Nat × Nat)->Option (Nat × Nat)
 | some (n,o)=>some (σ n,o)
 | none=>none
def C.ren (σ:Nat->Nat):C->C
 | .ptr n o=>.ptr (σ n) o
 | .slice n off len sz=>.slice (σ n) off len sz
 | .map n=>.map (σ n)
 | .fn f a b=>.fn f (a.map (Ybm σ)) (b.map (Ybm σ))
 | .yield l=>.yield (σ l)
 | .bool b=>.bool b
 | .int k n=>.int k n
 | .str s=>.str s
 | .pnil=>.pnil
 | .snil=>.snil
 | .mnil=>.mnil
 | .nilFn=>.nilFn
def W.ren (σ:Nat->Nat):W->W
 | .c x=>.c (x.ren σ)
 | .g l=>.g (l.map (C.ren σ))
def V.ren (σ:Nat->Nat):V->V
 | .w x=>.w (x.ren σ)
 | .tup l=>.tup (l.map (W.ren σ))
def Yd8 (σ:Nat->Nat) (p:W × W):W × W:=(p.1.ren σ,p.2.ren σ)
def O.ren (σ:Nat->Nat):O->O
 | .row sz els ro=>.row sz (els.map (List.map (C.ren σ))) ro
 | .map es=>.map (es.map (Yd8 σ))
 | o=>o
def O.simple:O->Bool
 | .row _ _ _=>true
 | .map _=>true
 | _=>false
section
variable {ρ:Ren} {σ:Nat->Nat}
theorem Sa {α β γ:Type} {R:β->γ->Prop} {f:α->β}:∀ {l:List α} {m:List γ},Yp R (l.map f) m ↔ Yp (fun a c=>R (f a) c) l m
 | [],[]=>Iff.rfl
 | [],_ :: _=>Iff.rfl
 | _ :: _,[]=>Iff.rfl
 | _ :: _,_ :: _=>and_congr Iff.rfl Sa
theorem Vv {α β:Type} {R R':α->β->Prop} (h:∀ a b,R a b ↔ R' a b) {l:List α} {m:List β}:Yp R l m ↔ Yp R' l m :=
 ⟨Yp.mono fun a b=>(h a b).1,Yp.mono fun a b=>(h a b).2⟩
theorem Zqk (p:Option (Nat × Nat)) (v:Value):Rn ρ (Ybm σ p) v ↔ Rn (fun n=>ρ (σ n)) p v:=by cases p<;>exact Iff.rfl
theorem Zhb (c:C) (v:Value):Con ρ (c.ren σ) v ↔ Con (fun n=>ρ (σ n)) c v:=by
 cases c with
 | fn f a b =>
  simp only[C.ren,Con]
  refine exists_congr fun x=>exists_congr fun y=>and_congr Iff.rfl (and_congr ?_ ?_)
  ·exact Sa.trans (Vv Zqk)
  ·exact Sa.trans (Vv Zqk)
 | _=>exact Iff.rfl
theorem Zab (x:W) (v:Value):Jw ρ (x.ren σ) v ↔ Jw (fun n=>ρ (σ n)) x v:=by
 cases x with
 | c x=>exact Zhb x v
 | g l=>exact exists_congr fun cs=>and_congr Iff.rfl (Sa.trans (Vv Zhb))
theorem Zql (x:V) (v:Value):O8 ρ (x.ren σ) v ↔ O8 (fun n=>ρ (σ n)) x v:=by
 cases x with
 | w x=>exact Zab x v
 | tup l=>exact exists_congr fun cs=>and_congr Iff.rfl (Sa.trans (Vv Zab))
theorem Zzh (sz:Nat) (els:List (List C)) (k:Nat):read1 sz (els.map (List.map (C.ren σ))) k=(read1 sz els k).map (C.ren σ):=by
 unfold read1
 rw[List.getElem?_map]
 cases els[k / sz]? with
 | none=>rfl
 | some e=>exact List.getElem?_map ..
theorem Zap {w:World} {o:O} (hs:o.simple=true) (l:Loc):Br ρ w (o.ren σ) l ↔ Br (fun n=>ρ (σ n)) w o l:=by
 cases o with
 | row sz els ro =>
  simp only[O.ren,Br,Zzh]
  refine exists_congr fun cs=>exists_congr fun t=>exists_congr fun fr=>and_congr Iff.rfl (and_congr Iff.rfl (and_congr Iff.rfl (and_congr ?_ ?_)))
  ·simp
  ·constructor
   ·intro h k c hc
    obtain⟨v,h1,h2⟩:=h k (c.ren σ) (by rw[hc]; rfl)
    exact⟨v,h1,(Zhb c v).1 h2⟩
   ·intro h k c hc
    cases hr:read1 sz els k with
    | none=>rw[hr] at hc; cases hc
    | some c0 =>
     rw[hr] at hc
     cases hc
     obtain⟨v,h1,h2⟩:=h k c0 hr
     exact⟨v,h1,(Zhb c0 v).2 h2⟩
 | map es =>
  simp only[O.ren,Br]
  refine exists_congr fun xs=>exists_congr fun cl=>and_congr Iff.rfl (and_congr ?_ Iff.rfl)
  exact Sa.trans (Vv fun p e=>and_congr (Zab _ _) (Zab _ _))
 | _=>cases hs
theorem Zj1 (o:O):(o.ren σ).ro=o.ro:=by cases o<;>rfl
end
section
variable {K:Cfg} {P:Program} {h0 h1 h h':H} {f:FuncId} {args:List W} {v:V} {σ:Nat->Nat}
structure Lies (K:Cfg) (σ:Nat->Nat) (h0 h:H):Prop where
 new:∀ n,h0.next<=n->σ n=h.next+(n - h0.next)
 old:∀ n,n<h0.next->σ n<h.next
 obj:∀ n o,h0.get n=some o->o.simple=true/\∃ o',h.get (σ n)=some o'/\(o'=o.ren σ\/∃ sz els,o=.row sz els true/\o'=(O.row sz els false).ren σ)
 inj:∀ n n' o o',h0.get n=some o->h0.get n'=some o'->n≠n'->σ n≠σ n'
 glob:∀ g n,K.globs.get g=some n->σ n=n
structure Lain (σ:Nat->Nat) (h0 h1 h h':H):Prop where
 next:h'.next=h.next+(h1.next - h0.next)
 obj:∀ m o',h'.get m=some o'->(h.get m=some o'/\∀ n o,h0.get n=some o->σ n=m->o.ro=true)\/∃ n o,h1.get n=some o/\o.ro=false/\o.simple=true/\σ n=m/\o'=o.ren σ
theorem Lies.rep {ρ:Ren} {w:World} (L:Lies K σ h0 h) (hr:Rep K ρ h w):Rep K (fun n=>ρ (σ n)) h0 w:=by
 refine⟨fun g n hg=>?_,fun n o ho=>?_,fun n n' o o' l l' hne ho ho' hl hl'=>?_⟩
 ·obtain⟨r,e⟩:=hr.glob g n hg
  exact⟨r,by rw[L.glob g n hg]; exact e⟩
 ·obtain⟨hs,o',ho',e⟩:=L.obj n o ho
  obtain⟨l,hl,hor⟩:=hr.obj _ o' ho'
  refine⟨l,hl,(Zap hs l).1 ?_⟩
  rcases e with rfl|⟨sz,els,rfl,rfl⟩
  ·exact hor
  ·obtain⟨cs,t,fr,e1,e2,_,e4⟩:=hor
   exact⟨cs,t,fr,e1,e2,(by intro h; cases h),e4⟩
 ·obtain⟨_,x,hx,e1⟩:=L.obj n o ho
  obtain⟨_,x',hx',e2⟩:=L.obj n' o' ho'
  have r1:∀ (o x:O),o.ro=false->(x=o.ren σ\/∃ sz els,o=.row sz els true/\x=(O.row sz els false).ren σ)->x.ro=false:=fun o x q e=>by
   rcases e with rfl|⟨_,_,rfl,_⟩
   ·rw[Zj1]; exact q
   ·cases q
  exact fun hq=>hr.inj (σ n) (σ n') x x' l l' (L.inj n n' o o' ho ho' hne) hx hx' hl hl' (hq.imp (fun q=>r1 _ _ q e1) (fun q=>r1 _ _ q e2))
theorem Zu.frame (C0:Zu K P f args h0 v h1) (L:Lies K σ h0 h) (B:Lain σ h0 h1 h h'):Zu K P f (args.map (W.ren σ)) h (v.ren σ) h':=by
 refine⟨C0.1,fun ρ w vals r m hr hd ha=>?_⟩
 have hd0:Dom (fun n=>ρ (σ n)) h0.next:=fun n hn=>by
  show ρ (σ n)=none
  rw[L.new n hn]
  exact hd _ oM
 refine (C0.2 (fun n=>ρ (σ n)) w vals r m (L.rep hr) hd0 ((Vv Zab).1 (Sa.1 ha))).mono ?_
 rintro e w' ⟨ρ0,val,rfl,aft,hv⟩
 let ρ':Ren:=fun m=>if m<h.next then ρ m else ρ0 (h0.next+(m - h.next))
 have hρ:(fun n=>ρ' (σ n))=ρ0:=by
  funext n
  by_cases hn:n<h0.next
  ·have h1:=L.old n hn
   have e:ρ' (σ n)=ρ (σ n):=if_pos h1
   show ρ' (σ n)=ρ0 n
   rw[e]
   cases hx:ρ0 n with
   | none =>
    cases hy:ρ (σ n) with
    | none=>rfl
    | some l =>
     have:=aft.le n l hy
     rw[hx] at this
     cases this
   | some l =>
    rcases aft.new n l hx with hy|hy
    ·exact hy
    ·omega
  ·have e1:=L.new n oM
   show ρ' (σ n)=ρ0 n
   have e:ρ' (σ n)=ρ0 (h0.next+(σ n - h.next)):=if_neg (by rw[e1]; omega)
   rw[e]
   congr 1
   omega
 have hle:Ren.le ρ ρ':=fun n l hl=>by
  have:n<h.next:=by
   rcases Nat.lt_or_ge n h.next with h1|h1
   ·exact h1
   ·rw[hd n h1] at hl; cases hl
  show (if n<h.next then ρ n else _)=some l
  rw[if_pos this]
  exact hl
 have hup:=aft.up
 have mine0:∀ k,Mine (fun n=>ρ (σ n)) h0 k->Mine ρ h k:=by
  rintro k ⟨n,o,l,ho,hro,hl,hk⟩
  obtain⟨_,o',ho',e⟩:=L.obj n o ho
  rcases e with rfl|⟨sz,els,rfl,rfl⟩
  ·exact⟨σ n,_,l,ho',by rw[Zj1]; exact hro,hl,hk⟩
  ·cases hro
 have away:∀ m o l,h.get m=some o->(∀ n o,h0.get n=some o->σ n=m->o.ro=true)->ρ m=some l->¬ Mine (fun n=>ρ (σ n)) h0 l.blk:=by
  rintro m o l ho hn hl ⟨n,o0,l0,ho0,hro,hl0,hk⟩
  by_cases e:σ n=m
  ·rw[hn n o0 ho0 e] at hro
   cases hro
  ·obtain⟨_,o',ho',e'⟩:=L.obj n o0 ho0
   have r1:o'.ro=false:=by
    rcases e' with rfl|⟨_,_,rfl,_⟩
    ·rw[Zj1]; exact hro
    ·cases hro
   exact hr.inj (σ n) m o' o l0 l e ho' ho hl0 hl (.inl r1) hk
 have mine1:∀ n o l,h1.get n=some o->o.ro=false->ρ' (σ n)=some l->Mine ρ0 h1 l.blk:=fun n o l ho hro hl=>⟨n,o,l,ho,hro,by rw[<-hρ]; exact hl,rfl⟩
 refine⟨ρ',val,rfl,⟨hle,fun m l hm=>?_,⟨fun g n hg=>?_,fun m o ho=>?_,fun m m' o o' l l' hne ho ho' hl hl'=>?_⟩,⟨aft.fr.os,aft.fr.tape,aft.fr.output,aft.fr.size,fun k hk hn=>aft.fr.keep k hk (fun h=>hn (mine0 k h)),fun k hk=>?_,fun m o ho hro=>?_⟩,by rw[B.next]; omega⟩,?_⟩
 ·
  by_cases h1:m<h.next
  ·have:ρ' m=ρ m:=if_pos h1
   exact .inl (this ▸ hm)
  ·have e:ρ' m=ρ0 (h0.next+(m - h.next)):=if_neg h1
   rw[e] at hm
   rcases aft.new _ _ hm with hy|hy
   ·rw[hd0 _ oM] at hy; cases hy
   ·right
    rw[B.next]
    omega
 ·obtain⟨r,e⟩:=hr.glob g n hg
  exact⟨r,hle _ _ e⟩
 ·rcases B.obj m o ho with ⟨ho1,hn⟩|⟨n,o0,ho1,hro,hs,rfl,rfl⟩
  ·obtain⟨l,hl,hor⟩:=hr.obj m o ho1
   refine⟨l,hle _ _ hl,(hor.congr ?_).mono hle⟩
   exact aft.fr.keep l.blk hor.lt (away m o l ho1 hn hl)
  ·obtain⟨l,hl,hor⟩:=aft.rep.obj n o0 ho1
   rw[<-hρ] at hl hor
   exact⟨l,hl,(Zap hs l).2 hor⟩
 ·rcases B.obj m o ho with ⟨ho1,hn⟩|⟨n,o0,ho1,hro,hs,rfl,rfl⟩
  ·obtain⟨lm,hlm,hor⟩:=hr.obj m o ho1
   have e:=hle _ _ hlm
   rw[hl] at e
   cases e
   rcases B.obj m' o' ho' with ⟨ho2,hn'⟩|⟨n',o0',ho2,hro',hs',rfl,rfl⟩
   ·obtain⟨lm',hlm',hor'⟩:=hr.obj m' o' ho2
    have e:=hle _ _ hlm'
    rw[hl'] at e
    cases e
    exact hr.inj m m' o o' l l' hne ho1 ho2 hlm hlm'
   ·intro _ e
    rcases aft.fr.fresh l'.blk (mine1 n' o0' l' ho2 hro' hl') with h2|h2
    ·have:=hor.lt; omega
    ·exact away m o l ho1 hn hlm (e ▸ h2)
  ·rcases B.obj m' o' ho' with ⟨ho2,hn'⟩|⟨n',o0',ho2,hro',hs',rfl,rfl⟩
   ·obtain⟨lm',hlm',hor'⟩:=hr.obj m' o' ho2
    have e:=hle _ _ hlm'
    rw[hl'] at e
    cases e
    intro _ e
    rcases aft.fr.fresh l.blk (mine1 n o0 l ho1 hro hl) with h2|h2
    ·have:=hor'.lt; omega
    ·exact away m' o' l' ho2 hn' hlm' (e ▸ h2)
   ·refine fun _=>aft.rep.inj n n' o0 o0' l l' (fun e=>hne (by rw[e])) ho1 ho2 ?_ ?_ (.inl hro)
    ·rw[<-hρ]; exact hl
    ·rw[<-hρ]; exact hl'
 ·obtain⟨m,o,l,ho,hro,hl,hk⟩:=hk
  rcases B.obj m o ho with ⟨ho1,hn⟩|⟨n,o0,ho1,hro1,hs,rfl,rfl⟩
  ·obtain⟨lm,hlm,_⟩:=hr.obj m o ho1
   have e:=hle _ _ hlm
   rw[hl] at e
   cases e
   exact .inr ⟨m,o,l,ho1,hro,hlm,hk⟩
  ·have h2:=mine1 n o0 l ho1 hro1 hl
   rw[hk] at h2
   rcases aft.fr.fresh k h2 with h3|h3
   ·exact .inl h3
   ·exact .inr (mine0 k h3)
 ·rcases B.obj m o ho with ⟨ho1,_⟩|⟨n,o0,ho1,hro1,hs,rfl,rfl⟩
  ·exact ho1
  ·rw[Zj1,hro1] at hro; cases hro
 ·rw[Zql,hρ]
  exact hv
end
open Go.RowKit
structure Goes (K:Cfg) (P:Program) (n:Nat) (rd:Option Nat) (c:Code) (ds:List Nat) (ts:Zx) (h:H) (Q:X->List Nat->Zx->H->Prop):Prop where
 ex:∃ x ds' ts' h',Yg K P n rd c ds ts h x ds' ts' h'/\Q x ds' ts' h'
def then2 (p:Option (Zx × H)) (Q:Zx->H->Prop):Prop:=match p with
 | some p=>Q p.1 p.2
 | none=>False
section
variable {K:Cfg} {P:Program} {n:Nat} {rd:Option Nat} {ds:List Nat} {ts:Zx} {h:H} {Q R:X->List Nat->Zx->H->Prop} {a b c:Code} {id:Nat}
theorem Goes.mono (g:Goes K P n rd c ds ts h Q) (hq:∀ x ds ts h,Q x ds ts h->R x ds ts h):Goes K P n rd c ds ts h R:=by
 obtain⟨x,ds',ts',h',g1,g2⟩:=g
 exact⟨x,ds',ts',h',g1,hq _ _ _ _ g2⟩
theorem Z6 (g:Goes K P n rd a ds ts h fun x ds ts h=>match x with
  | .normal=>Goes K P n rd b ds ts h Q
  | x=>Q x ds ts h):Goes K P n rd (.seq a b) ds ts h Q:=by
 obtain⟨x,ds',ts',h',g1,g2⟩:=g
 cases x with
 | normal =>
  obtain⟨y,ds2,ts2,h2,g3,g4⟩:=g2
  exact⟨y,ds2,ts2,h2,Yg.seq g1 g3,g4⟩
 | exit id=>exact⟨_,_,_,_,Yg.Zxa (by intro e; cases e) g1,g2⟩
 | ret=>exact⟨_,_,_,_,Yg.Zxa (by intro e; cases e) g1,g2⟩
theorem Og (g:Goes K P n rd b ds ts h fun x ds ts h=>match x with
  | .normal=>Q .normal ds ts h
  | .ret=>Q .ret ds ts h
  | .exit id'=>if id'=id then Q .normal ds ts h else False):Goes K P n rd (.block id b) ds ts h Q:=by
 obtain⟨x,ds',ts',h',g1,g2⟩:=g
 cases x with
 | normal=>exact⟨_,_,_,_,Yg.block g1,g2⟩
 | ret=>exact⟨_,_,_,_,Yg.Zlj g1,g2⟩
 | exit id' =>
  simp only at g2
  split at g2
  ·rename_i e
   subst e
   exact⟨_,_,_,_,Yg.Zh6 g1,g2⟩
  ·exact g2.elim
theorem Ea (g:Goes K P n rd b ds ts h fun x ds ts h=>match x with
  | .normal=>Goes K P n rd (.loop b) ds ts h Q
  | x=>Q x ds ts h):Goes K P n rd (.loop b) ds ts h Q:=by
 obtain⟨x,ds',ts',h',g1,g2⟩:=g
 cases x with
 | normal =>
  obtain⟨y,ds2,ts2,h2,g3,g4⟩:=g2
  exact⟨y,ds2,ts2,h2,Yg.loop g1 g3,g4⟩
 | exit id=>exact⟨_,_,_,_,Yg.Zrh (by intro e; cases e) g1,g2⟩
 | ret=>exact⟨_,_,_,_,Yg.Zrh (by intro e; cases e) g1,g2⟩
theorem Goes.cond {o:Operand} {v:Bool} (hc:Z4 K ts o=some (.bool v)) (g:if v=true then Goes K P n rd a ds ts h Q else Goes K P n rd b ds ts h Q):Goes K P n rd (.cond o a b) ds ts h Q:=by
 cases v with
 | true =>
  obtain⟨x,ds',ts',h',g1,g2⟩:=g
  exact⟨_,_,_,_,Yg.cond_true hc g1,g2⟩
 | false =>
  simp only[Bool.false_eq_true,if_false] at g
  obtain⟨x,ds',ts',h',g1,g2⟩:=g
  exact⟨_,_,_,_,Yg.cond_false hc g1,g2⟩
theorem Goes.Ycy {o:Operand} (hc:Z4 K ts o=some (.bool true)) (g:Goes K P n rd a ds ts h Q):Goes K P n rd (.cond o a b) ds ts h Q:=Goes.cond hc g
theorem Goes.Ycx {o:Operand} (hc:Z4 K ts o=some (.bool false)) (g:Goes K P n rd b ds ts h Q):Goes K P n rd (.cond o a b) ds ts h Q:=Goes.cond hc g
theorem Goes.scope (g:Goes K P n rd b ds ts h Q):Goes K P n rd (.scope b) ds ts h Q:=by
 obtain⟨x,ds',ts',h',g1,g2⟩:=g
 exact⟨_,_,_,_,Yg.scope g1,g2⟩
theorem Goes.label {l:Nat} (q:Q .normal ds ts h):Goes K P n rd (.label l) ds ts h Q:=⟨_,_,_,_,Yg.label,q⟩
theorem Yt (q:Q .normal ds ts h):Goes K P n rd .skip ds ts h Q:=⟨_,_,_,_,Yg.skip,q⟩
theorem Bv (q:Q (.exit id) ds ts h):Goes K P n rd (.exit id) ds ts h Q:=⟨_,_,_,_,Yg.exit,q⟩
theorem Yc (q:Q .ret ds ts h):Goes K P n rd .ret ds ts h Q:=⟨_,_,_,_,Yg.ret,q⟩
abbrev GoS (K:Cfg) (P:Program) (n:Nat) (rd:Option Nat) (c:Code) (ds:List Nat) (ts:Zx) (h:H) (Q:X->List Nat->Zx->H->Prop):Prop:=match c with
 | .seq a b=>Goes K P n rd a ds ts h fun x ds ts h=>match x with
  | .normal=>Goes K P n rd b ds ts h Q
  | x=>Q x ds ts h
 | .block id b=>Goes K P n rd b ds ts h fun x ds ts h=>match x with
  | .normal=>Q .normal ds ts h
  | .ret=>Q .ret ds ts h
  | .exit id'=>if id'=id then Q .normal ds ts h else False
 | .loop b=>Goes K P n rd b ds ts h fun x ds ts h=>match x with
  | .normal=>Goes K P n rd (.loop b) ds ts h Q
  | x=>Q x ds ts h
 | .skip=>Q .normal ds ts h
 | .exit id=>Q (.exit id) ds ts h
 | .ret=>Q .ret ds ts h
 | _=>False
theorem gS {K:Cfg} {P:Program} {n:Nat} {rd:Option Nat} {c:Code} {ds:List Nat} {ts:Zx} {h:H} {Q:X->List Nat->Zx->H->Prop} (g:GoS K P n rd c ds ts h Q):Goes K P n rd c ds ts h Q:=by
 cases c with
 | seq a b=>exact Z6 g
 | block id b=>exact Og g
 | loop b=>exact Ea g
 | skip=>exact Yt g
 | exit id=>exact Bv g
 | ret=>exact Yc g
 | _=>exact g.elim
theorem Goes.ok {x:X} {ds':List Nat} {ts':Zx} {h':H} (g:Yg K P n rd c ds ts h x ds' ts' h') (q:Q x ds' ts' h'):Goes K P n rd c ds ts h Q:=⟨_,_,_,_,g,q⟩
theorem Goes.congr {ts':Zx} (e:∀ i,Zg ts i=Zg ts' i) (g:Goes K P n rd c ds ts h Q):Goes K P n rd c ds ts' h Q:=by
 obtain⟨x,ds',ts2,h',g1,g2⟩:=g
 exact⟨x,ds',ts2,h',Yg.congr e g1,g2⟩
def E0:Task->Option Out:=fun _=>none
theorem Za:Sound K P E0:=⟨fun _ _ _ _ _ h=>(by cases h),fun _ _ _ _ _ _ _ _ _ _ h=>(by cases h),fun _ _ h=>(by cases h)⟩
open Classical in
noncomputable def E1 (E:Task->Option Out) (f:FuncId) (args:List W) (h:H) (v:V) (h':H):Task->Option Out:=fun t=>if t=.call f args h then some (.val v h') else E t
theorem Zj {E:Task->Option Out} (S:Sound K P E) {f:FuncId} {args:List W} {v:V} {h':H} (c:Zu K P f args h v h'):Sound K P (E1 E f args h v h'):=by
 refine⟨fun g us k u k' he=>?_,fun c n rd ds ts h x ds' ts' h' he=>?_,fun t o he=>?_⟩
 ·simp only[E1] at he
  split at he
  ·rename_i e
   cases e
   cases he
   exact c
  ·exact S.call g us k u k' he
 ·simp only[E1] at he
  split at he
  ·rename_i e
   cases e
  ·exact S.code c n rd ds ts h x ds' ts' h' he
 ·simp only[E1] at he
  split at he
  ·rename_i e
   cases e
   cases he
   exact .inl ⟨_,_,_,_,_,rfl,rfl⟩
  ·exact S.shape t o he
theorem Z7 (E:Task->Option Out) (f:FuncId) (args:List W) (h:H) (v:V) (h':H):E1 E f args h v h' (.call f args h)=some (.val v h'):=by simp [E1]
theorem Goes.ops (F:Fits K P) (Hh:Hearts K P) {E:Task->Option Out} (S:Sound K P E) {ops:Array Oper} (g:then2 (Fu K E ops.toList n ops.toList ts h) fun ts h=>Q .normal ds ts h):Goes K P n rd (.region id ops false) ds ts h Q:=by
 cases e:Fu K E ops.toList n ops.toList ts h with
 | none=>rw[e] at g; exact g.elim
 | some p =>
  obtain⟨ts',h'⟩:=p
  rw[e] at g
  have T:=Ml F Hh S (Zbc F S)
  refine⟨.normal,ds,ts',h',T.code (.region id ops false) n rd ds ts h .normal ds ts' h' ?_,g⟩
  show Zjn ds (Fu K E ops.toList n ops.toList ts h)=_
  rw[e]
  rfl
theorem Goes.drawn (F:Fits K P) (Hh:Hearts K P) {E:Task->Option Out} (S:Sound K P E) {ops:Array Oper} (g:then2 (Wn K E ops.toList n ts h) fun ts h=>Q .normal ds ts h):Goes K P n rd (.region id ops true) ds ts h Q:=by
 cases e:Wn K E ops.toList n ts h with
 | none=>rw[e] at g; exact g.elim
 | some p =>
  obtain⟨ts',h'⟩:=p
  rw[e] at g
  have T:=Ml F Hh S (Zbc F S)
  refine⟨.normal,ds,ts',h',T.code (.region id ops true) n rd ds ts h .normal ds ts' h' ?_,g⟩
  show Zjn ds (Wn K E ops.toList n ts h)=_
  rw[e]
  rfl
theorem Goes.ev (F:Fits K P) (Hh:Hearts K P) {Y:Kn} (hX:Zcj K P Y) {k:Nat} {x:X} {ds':List Nat} {ts':Zx} {h':H} (e:evX K Y k (.code c n rd ds ts h)=some (.at x ds' ts' h')) (q:Q x ds' ts' h'):Goes K P n rd c ds ts h Q :=
 ⟨_,_,_,_,Yg.ev F Hh hX e,q⟩
theorem Zu.goes (F:Fits K P) (Hh:Hearts K P) {f:FuncId} {fn:Func} {body:Code} {args:List W} {v:V} {h':H} (hc:K.clones.contains f=false) (hs:K.sorted.lookup f=none) (hf:K.funcs.get f=some fn) (hb:fn.body=some body) (hn:Nat.ble args.length fn.ntmps=true)
  (g:Goes K P fn.ntmps none body [] (Ug 0 args .nil) h fun x ds ts h1=>leave K fn (some (.at x ds ts h1))=some (.val v h')):Zu K P f args h v h':=by
 obtain⟨x,ds',ts',h1,g1,g2⟩:=g
 exact Zu.body F Hh hc hs hf hb hn g1 g2
theorem Y6 {s k d:Nat} {v:V} (hs:s<=k) (hd:k<d):Zg (ts.set d v) s=Zg ts s:=by rw[Zp,if_neg oM]
theorem Uw (args:List W) (j:Nat):Zg (Ug 0 args .nil) j=match args[j]? with
  | some v=>.w v
  | none=>undef:=by
 rw[Q5]
 by_cases e:j<args.length
 ·rw[if_pos ⟨Nat.zero_le _,oM⟩]; simp only[Nat.sub_zero]; rfl
 ·rw[if_neg oM,List.getElem?_eq_none oM]; rfl
theorem Goes.ops2 (F:Fits K P) (Hh:Hearts K P) {E:Task->Option Out} (S:Sound K P E) {ops:Array Oper} {ts':Zx} {h':H} (g:Fu K E ops.toList n ops.toList ts h=some (ts',h')) (q:Q .normal ds ts' h'):Goes K P n rd (.region id ops false) ds ts h Q :=
 Goes.ops F Hh S (by rw[g]; exact q)
theorem Zu.tidy {f:FuncId} {args:List W} {v:V} {h':H} (hc:Ou P f) (c:(∀ n o,h.get n=some o->n<h.next)->Zu K P f args h v h'):Zu K P f args h v h':=by
 by_cases e:∀ n o,h.get n=some o->n<h.next
 ·exact c e
 ·refine⟨hc,fun ρ w vals r m hr hd ha=>(e fun n o ho=>?_).elim⟩
  obtain⟨l,hl,_⟩:=hr.obj n o ho
  rcases Nat.lt_or_ge n h.next with h1|h1
  ·exact h1
  ·rw[hd n h1] at hl; cases hl
end
section
variable {K:Cfg} {E:Task->Option Out} {n:Nat} {ts:Zx} {h:H} {all:List Oper}
theorem Zqu (d:Option Tmp) (op:Op) (t:TypeId) (p:String) (a:Array Edge) (j:Nat) (b:Bool):Zdi K E all n ts h ⟨d,op,t,p,a,some (j,b)⟩=bif D9 all ts (some (j,b)) then Qo n ts d (Uh K E ts h op) else Qo n ts d (some (undef,h)):=rfl
theorem Z0q (c a b:Operand):Uh K E ts h (.pick c a b)=Tm h (Zar K ts a b (Z4 K ts c)):=rfl
theorem Z0m (t:TypeId):Uh K E ts h (.alloc t)=Wx h (K.types.get t):=rfl
theorem Z5w (t:TypeId) (x:Operand):Uh K E ts h (.box t x)=Yx h (evalW K ts x):=rfl
theorem Zxv (t:TypeId) (ps:Array (Nat × Operand)):Uh K E ts h (.build t ps)=Ma h (Yq K t (Uj K ts ps.toList)):=rfl
theorem Zhw (t:TypeId) (len:Nat) (ps:Array (Nat × Operand)):Uh K E ts h (.buildSlice t len ps)=Ju h len (J9 K t) (Uj K ts ps.toList):=rfl
theorem Zne (x:Operand):Uh K E ts h (.nilCheck x)=Gr h (Em (Z4 K ts x)):=rfl
theorem Zk2 (t:TypeId) (l c:Operand):Uh K E ts h (.makeSlice t l c)=U1 h (J9 K t) (Oh (Z4 K ts l)) (Oh (Z4 K ts c)):=rfl
theorem Zk0 (t:TypeId) (x:Operand) (f:Nat):Uh K E ts h (.fieldAddr t x f)=Gr h (Bi (Z4 K ts x) (Zw K t f)):=rfl
theorem Zxw (t:TypeId) (x:Operand) (f:Nat):Uh K E ts h (.field t x f)=Ma h (Tz (evalW K ts x) (Zw K t f)):=rfl
theorem Zp4 (x:Operand) (i:Nat):Uh K E ts h (.extract x i)=Ma h (Fv i (Bf K ts x)):=rfl
theorem Zsy (t:TypeId) (x k:Operand) (ok:Bool):Uh K E ts h (.lookup t x k ok)=Xh K h (El K t) (Z4 K ts x) (evalW K ts k) ok:=rfl
theorem Zk3 (t:TypeId) (m k v:Operand):Uh K E ts h (.mapUpdate t m k v)=Fw K h (El K t) (Z4 K ts m) (evalW K ts k) (evalW K ts v):=rfl
theorem Z0j (k:IntKind) (z:Int):Zex (.int k z)=some (.w (.c (.int k z))):=rfl
theorem Zxp (b:Bool):Zex (.bool b)=some (.w (.c (.bool b))):=rfl
theorem Zyy (k:IntKind) (i:Nat):Oh (some (.int k (i:Int)))=some i:=rfl
theorem Zyx (k:IntKind) (i:Nat):Oh (some (.int k (OfNat.ofNat i:Int)))=some i:=rfl
theorem Zv9 (x:C):(W.c x).cells=[x]:=rfl
theorem Zwa (l:List C):(W.g l).cells=l:=rfl
theorem Zax {l:List C} (h:0<l.length):Zn l.length [l] 0 l.length=some l:=by
 have e:Nat.beq l.length 0=false:=by
  cases hx:Nat.beq l.length 0 with
  | false=>rfl
  | true=>have:=bQ hx; omega
 simp only[Zn,Nat.zero_div,Nat.zero_mod,List.getElem?_cons_zero,List.drop_zero,Nat.zero_add,e,cond_false]
 rw[List.take_of_length_le (Nat.le_refl _),Nat.ble_eq_true_of_le (Nat.le_refl _)]
 rfl
theorem Qi {l l':List C} (h:0<l'.length) (e:l.length=l'.length):Z0 l'.length [l] 0 l'=some [l']:=by
 match l',h with
 | [c],_ =>
  match l,e with
  | [d],_=>simp [Z0]; rfl
 | a :: b :: r,_ =>
  simp only[Z0,Nat.zero_div,Nat.zero_mod,List.getElem?_cons_zero,Nat.zero_add,List.take_zero,List.nil_append]
  rw[Nat.ble_eq_true_of_le oM,List.drop_of_length_le oM]
  simp
theorem Et (fn:Func) (ds:List Nat):leave K fn (some (.at .ret ds ts h))=finish K fn ts (Ji ds h):=rfl
theorem Zoj (fn:Func) (ds:List Nat):leave K fn (some (.at .normal ds ts h))=finish K fn ts (Ji ds h):=rfl
theorem nbeq10:Nat.beq 1 0=false:=rfl
theorem Ycp:(true == true)=true:=rfl
theorem Yco:(true == false)=false:=rfl
theorem Ycn:(false == true)=false:=rfl
theorem Ycm:(false == false)=true:=rfl
theorem Yz:decide True=true:=rfl
theorem Yo:decide False=false:=rfl
theorem Gu {a b:Nat} (h:a<b):Nat.blt a b=true:=by simpa [Nat.blt_eq] using h
theorem wrap64 {z:Int} (h : -9223372036854775808<=z) (h':z<9223372036854775808):Jk .i64 z=.int .i64 z:=by
 unfold Jk IntKind.wrap
 congr 1
 show (if (true&&decide (z % 18446744073709551616 >= 9223372036854775808))=true then z % 18446744073709551616 - 18446744073709551616 else z % 18446744073709551616)=z
 rw[Bool.true_and]
 by_cases e:z % 18446744073709551616 >= 9223372036854775808
 ·rw[decide_eq_true e,if_pos rfl]; omega
 ·rw[decide_eq_false e,if_neg (by simp)]; omega
theorem Z4e {z:Int}:Jk .u8 z=.int .u8 (z % 256):=by
 unfold Jk IntKind.wrap
 congr 1
end
def J7 (fn:Func):Code:=match fn.body with
 | some c=>c
 | none=>.skip
def part (k:Nat) (c:Code):Code:=match k,c with
 | 0,.seq a _=>a
 | 1,.seq _ b=>b
 | 2,.block _ b=>b
 | 2,.loop b=>b
 | 2,.scope b=>b
 | 3,.cond _ a _=>a
 | 4,.cond _ _ b=>b
 | 5,.rangeFunc _ _ a _=>a
 | 6,.rangeFunc _ _ _ b=>b
 | _,_=>.skip
theorem part0 (a b:Code):part 0 (.seq a b)=a:=rfl
theorem part1 (a b:Code):part 1 (.seq a b)=b:=rfl
theorem part2 (i:Nat) (b:Code):part 2 (.block i b)=b:=rfl
theorem Ybe (b:Code):part 2 (.loop b)=b:=rfl
theorem Ybf (b:Code):part 2 (.scope b)=b:=rfl
theorem part3 (o:Operand) (a b:Code):part 3 (.cond o a b)=a:=rfl
theorem part4 (o:Operand) (a b:Code):part 4 (.cond o a b)=b:=rfl
theorem part5 (g:Operand) (ps:Array Tmp) (a b:Code):part 5 (.rangeFunc g ps a b)=a:=rfl
theorem part6 (g:Operand) (ps:Array Tmp) (a b:Code):part 6 (.rangeFunc g ps a b)=b:=rfl
def piece:List Nat->Code->Code
 | [],c=>c
 | k :: l,c=>piece l (part k c)
def Z7x:Code->Array Oper
 | .region _ ops _=>ops
 | _=>#[]
open Go.RowKit
section
variable {K:Cfg} {P:Program} {h h1 h':H} {f:FuncId} {args:List W} {v v':V} {τ:Nat->Nat}
theorem Zu.Zeh (c:Zu K P f args h v h1) (hold:∀ m,m<h.next->τ m=m) (hbig:∀ m,h'.next<=m->h1.next<=τ m) (hup:h.next<=h'.next) (hv:v'.ren τ=v)
  (hobj:∀ m o,h'.get m=some o->(h.get m=some o/\h1.get m=some o)\/(o.simple=true/\o.ro=false/\h1.get (τ m)=some (o.ren τ)))
  (hinj:∀ m m' o o',h'.get m=some o->h'.get m'=some o'->m≠m'->τ m≠τ m'):Zu K P f args h v' h':=by
 refine⟨c.1,fun ρ w vals r m hr hd ha=>(c.2 ρ w vals r m hr hd ha).mono ?_⟩
 rintro e w' ⟨ρ',val,rfl,aft,hcon⟩
 have hd1:=aft.dom hd
 have lt:∀ m o,h.get m=some o->m<h.next:=fun m o ho=>by
  obtain⟨l,hl,_⟩:=hr.obj m o ho
  rcases Nat.lt_or_ge m h.next with h1|h1
  ·exact h1
  ·rw[hd m h1] at hl; cases hl
 have at1:∀ m o,h'.get m=some o->∃ o1,h1.get (τ m)=some o1/\o1.ro=o.ro:=fun m o ho=>by
  rcases hobj m o ho with ⟨a,b⟩|⟨_,_,b⟩
  ·exact⟨o,by rw[hold m (lt m o a)]; exact b,rfl⟩
  ·exact⟨_,b,Zj1 o⟩
 have hle:Ren.le ρ (fun n=>ρ' (τ n)):=fun n l hl=>by
  have:n<h.next:=by
   rcases Nat.lt_or_ge n h.next with h1|h1
   ·exact h1
   ·rw[hd n h1] at hl; cases hl
  show ρ' (τ n)=some l
  rw[hold n this]
  exact aft.le n l hl
 refine⟨fun n=>ρ' (τ n),val,rfl,⟨hle,fun m l hm=>?_,⟨fun g n hg=>?_,fun m o ho=>?_,fun m m' o o' l l' hne ho ho' hl hl'=>?_⟩,⟨aft.fr.os,aft.fr.tape,aft.fr.output,aft.fr.size,aft.fr.keep,fun k hk=>?_,fun m o ho hro=>?_⟩,hup⟩,?_⟩
 ·have hm':ρ' (τ m)=some l:=hm
  rcases Nat.lt_or_ge m h.next with h2|h2
  ·rw[hold m h2] at hm'
   rcases aft.new m l hm' with h3|h3
   ·exact .inl h3
   ·omega
  ·rcases Nat.lt_or_ge m h'.next with h3|h3
   ·exact .inr ⟨h2,h3⟩
   ·rw[hd1 _ (hbig m h3)] at hm'; cases hm'
 ·obtain⟨r,e⟩:=hr.glob g n hg
  exact⟨r,hle _ _ e⟩
 ·rcases hobj m o ho with ⟨a,b⟩|⟨hs,_,b⟩
  ·obtain⟨l,hl,hor⟩:=hr.obj m o a
   obtain⟨l1,hl1,hor1⟩:=aft.rep.obj m o b
   have e:ρ' (τ m)=some l1:=by rw[hold m (lt m o a)]; exact hl1
   refine⟨l1,e,(hor1.cut (hor.sc hd)).mono fun n l hn=>?_⟩
   unfold Ren.cut at hn
   split at hn
   ·rename_i h2
    show ρ' (τ n)=some l
    rw[hold n h2]
    exact hn
   ·cases hn
  ·obtain⟨l,hl,hor⟩:=aft.rep.obj _ _ b
   exact⟨l,hl,(Zap hs l).1 hor⟩
 ·obtain⟨o1,ho1,hro1⟩:=at1 m o ho
  obtain⟨o1',ho1',hro2⟩:=at1 m' o' ho'
  exact fun hq=>aft.rep.inj (τ m) (τ m') o1 o1' l l' (hinj m m' o o' ho ho' hne) ho1 ho1' hl hl' (by rw[hro1,hro2]; exact hq)
 ·obtain⟨m,o,l,ho,hro,hl,hk⟩:=hk
  obtain⟨o1,ho1,hro1⟩:=at1 m o ho
  exact aft.fr.fresh k ⟨τ m,o1,l,ho1,by rw[hro1]; exact hro,hl,hk⟩
 ·rcases hobj m o ho with ⟨a,_⟩|⟨_,b,_⟩
  ·exact a
  ·rw[b] at hro; cases hro
 ·rw[<-Zql,hv]
  exact hcon
def C.flat:C->Bool
 | .bool _|.int _ _|.str _|.pnil|.snil|.mnil|.nilFn=>true
 | _=>false
def W.flat:W->Bool
 | .c x=>x.flat
 | .g l=>l.all C.flat
def V.flat:V->Bool
 | .w x=>x.flat
 | .tup l=>l.all W.flat
theorem C.Y7 {c:C} (h:c.flat=true) (σ:Nat->Nat):c.ren σ=c:=by cases c<;>first|rfl|cases h
theorem Jm {α:Type} {g:α->α} {p:α->Bool} (hg:∀ a,p a=true->g a=a):∀ {l:List α},l.all p=true->l.map g=l
 | [],_=>rfl
 | a :: l,h=>by
  simp only[List.all_cons,aQ] at h
  rw[List.map_cons,hg a h.1,Jm hg h.2]
theorem W.Y7 {x:W} (h:x.flat=true) (σ:Nat->Nat):x.ren σ=x:=by
 cases x with
 | c x=>show W.c _=_; rw[C.Y7 h]
 | g l=>show W.g _=_; rw[Jm (fun a ha=>C.Y7 ha σ) h]
theorem V.Y7 {x:V} (h:x.flat=true) (σ:Nat->Nat):x.ren σ=x:=by
 cases x with
 | w x=>show V.w _=_; rw[W.Y7 h]
 | tup l=>show V.tup _=_; rw[Jm (fun a ha=>W.Y7 ha σ) h]
theorem Zu.quiet (c:Zu K P f args h v h1) (hv:v.flat=true) (hk:∀ m,m<h.next->h1.get m=h.get m):Zu K P f args h v h:=by
 refine Zu.tidy c.1 fun tidy=>?_
 refine c.Zeh (τ:=fun m=>if m<h.next then m else h1.next+m) (fun m hm=>if_pos hm) (fun m hm=>?_) (Nat.le_refl _) (V.Y7 hv _) (fun m o ho=>.inl ⟨ho,?_⟩) (fun m m' o o' ho ho' hne=>?_)
 ·show h1.next<=if m<h.next then m else h1.next+m
  rw[if_neg oM]
  omega
 ·rw[hk m (tidy m o ho)]; exact ho
 ·have e1:=tidy m o ho
  have e2:=tidy m' o' ho'
  show (if m<h.next then m else _)≠(if m'<h.next then m' else _)
  rw[if_pos e1,if_pos e2]
  exact hne
theorem Zu.row {n off len sz:Nat} {els:List (List C)} {ws:List W} (c:Zu K P f args h (.tup (.c (.slice n off len sz) :: ws)) h1) (hn:h.next<=n) (ho:h1.get n=some (.row sz els false)) (hw:ws.all W.flat=true) (he:els.all (fun l=>l.all C.flat)=true) (hlt:n<h1.next) (hk:∀ m,m<h.next->h1.get m=h.get m) :
  Zu K P f args h (.tup (.c (.slice h.next off len sz) :: ws)) (h.new (.row sz els false)):=by
 refine Zu.tidy c.1 fun tidy=>?_
 have hτ:∀ m,m<h.next->(if m<h.next then m else if m=h.next then n else h1.next+m)=m:=fun m hm=>if_pos hm
 have hτ2:(if h.next<h.next then h.next else if h.next=h.next then n else h1.next+h.next)=n:=by rw[if_neg oM,if_pos rfl]
 refine c.Zeh (τ:=fun m=>if m<h.next then m else if m=h.next then n else h1.next+m) hτ (fun m hm=>?_) (by rw[H.Zc]; omega) ?_ (fun m o hm=>?_) (fun m m' o o' hm hm' hne=>?_)
 ·rw[H.Zc] at hm
  show h1.next<=if m<h.next then m else if m=h.next then n else h1.next+m
  rw[if_neg oM,if_neg oM]
  omega
 ·show V.tup (W.c (C.slice (if h.next<h.next then h.next else if h.next=h.next then n else h1.next+h.next) off len sz) :: ws.map _)=_
  rw[hτ2,Jm (fun a ha=>W.Y7 ha _) hw]
 ·rw[H.Zq] at hm
  split at hm
  ·rename_i e
   subst e
   cases hm
   refine .inr ⟨rfl,rfl,?_⟩
   show h1.get (if h.next<h.next then h.next else if h.next=h.next then n else h1.next+h.next)=_
   rw[hτ2,ho]
   show some (O.row sz els false)=some (O.row sz (els.map (List.map (C.ren _))) false)
   rw[Jm (fun l hl=>Jm (fun a ha=>C.Y7 ha _) hl) he]
  ·exact .inl ⟨hm,by rw[hk m (tidy m o hm)]; exact hm⟩
 ·have key:∀ m o,(h.new (.row sz els false)).get m=some o->m<h.next\/m=h.next:=fun m o hm=>by
   rw[H.Zq] at hm
   split at hm
   ·rename_i e; exact .inr e
   ·exact .inl (tidy m o hm)
  show (if m<h.next then m else if m=h.next then n else h1.next+m)≠(if m'<h.next then m' else if m'=h.next then n else h1.next+m')
  rcases key m o hm with e|e<;>rcases key m' o' hm' with e'|e'
  ·rw[if_pos e,if_pos e']; exact hne
  ·rw[if_pos e,if_neg oM,if_pos e']; omega
  ·rw[if_neg oM,if_pos e,if_pos e']; omega
  ·omega
theorem Zu.row1 {n off len sz:Nat} {els:List (List C)} (c:Zu K P f args h (.w (.c (.slice n off len sz))) h1) (hn:h.next<=n) (ho:h1.get n=some (.row sz els false)) (he:els.all (fun l=>l.all C.flat)=true) (hlt:n<h1.next) (hk:∀ m,m<h.next->h1.get m=h.get m) :
  Zu K P f args h (.w (.c (.slice h.next off len sz))) (h.new (.row sz els false)):=by
 refine Zu.tidy c.1 fun tidy=>?_
 have hτ:∀ m,m<h.next->(if m<h.next then m else if m=h.next then n else h1.next+m)=m:=fun m hm=>if_pos hm
 have hτ2:(if h.next<h.next then h.next else if h.next=h.next then n else h1.next+h.next)=n:=by rw[if_neg oM,if_pos rfl]
 refine c.Zeh (τ:=fun m=>if m<h.next then m else if m=h.next then n else h1.next+m) hτ (fun m hm=>?_) (by rw[H.Zc]; omega) ?_ (fun m o hm=>?_) (fun m m' o o' hm hm' hne=>?_)
 ·rw[H.Zc] at hm
  show h1.next<=if m<h.next then m else if m=h.next then n else h1.next+m
  rw[if_neg oM,if_neg oM]
  omega
 ·show V.w (W.c (C.slice (if h.next<h.next then h.next else if h.next=h.next then n else h1.next+h.next) off len sz))=_
  rw[hτ2]
 ·rw[H.Zq] at hm
  split at hm
  ·rename_i e
   subst e
   cases hm
   refine .inr ⟨rfl,rfl,?_⟩
   show h1.get (if h.next<h.next then h.next else if h.next=h.next then n else h1.next+h.next)=_
   rw[hτ2,ho]
   show some (O.row sz els false)=some (O.row sz (els.map (List.map (C.ren _))) false)
   rw[Jm (fun l hl=>Jm (fun a ha=>C.Y7 ha _) hl) he]
  ·exact .inl ⟨hm,by rw[hk m (tidy m o hm)]; exact hm⟩
 ·have key:∀ m o,(h.new (.row sz els false)).get m=some o->m<h.next\/m=h.next:=fun m o hm=>by
   rw[H.Zq] at hm
   split at hm
   ·rename_i e; exact .inr e
   ·exact .inl (tidy m o hm)
  show (if m<h.next then m else if m=h.next then n else h1.next+m)≠(if m'<h.next then m' else if m'=h.next then n else h1.next+m')
  rcases key m o hm with e|e<;>rcases key m' o' hm' with e'|e'
  ·rw[if_pos e,if_pos e']; exact hne
  ·rw[if_pos e,if_neg oM,if_pos e']; omega
  ·rw[if_neg oM,if_pos e,if_pos e']; omega
  ·omega
theorem Qa (sz:Nat) (L:List (List C)):E9 sz L 0 sz L.length=some L:=by
 unfold E9
 cases e:Nat.beq L.length 0 with
 | true =>
  have:=bQ e
  have:L=[]:=List.length_eq_zero_iff.1 this
  subst this
  rfl
 | false =>
  simp only[cond_false,Nat.beq_refl,cond_true,Nat.zero_mod,Nat.zero_div,Nat.zero_add,Bool.true_and,List.drop_zero]
  rw[Nat.ble_eq_true_of_le (Nat.le_refl _),List.take_of_length_le (Nat.le_refl _)]
  rfl
theorem Qe {n sz:Nat} {L:List (List C)} {ro:Bool} (ho:h.get n=some (.row sz L ro)):Uf h sz (.slice n 0 L.length sz)=some L:=by
 unfold Uf
 simp only[Nat.beq_refl,cond_true,ho,Qc,Qa]
 cases e:Nat.beq L.length 0 with
 | true =>
  have:=bQ e
  have:L=[]:=List.length_eq_zero_iff.1 this
  subst this
  rfl
 | false=>rfl
theorem Dh {sz i j:Nat} {L:List (List C)} {x:List C} (hj:j<sz) (hx:L[i]? = some x):read1 sz L (i * sz+j)=x[j]?:=by
 unfold read1
 rw[show (i * sz+j) / sz=i by rw[Nat.mul_comm,Nat.mul_add_div oM,Nat.div_eq_of_lt hj,Nat.add_zero],show (i * sz+j) % sz=j by rw[Nat.mul_comm,Nat.mul_add_mod,Nat.mod_eq_of_lt hj],hx]
theorem Rb {sz i:Nat} {L:List (List C)} {e l:List C} (hl:l.length=sz) (h2:2<=sz) (hx:L[i]? = some e) (he:e.length=sz):Z0 sz L (i * sz) l=some (L.set i l):=by
 match l,hl with
 | a :: b :: r,hl =>
  simp only[Z0]
  rw[show i * sz / sz=i from Nat.mul_div_cancel _ oM,Nat.mul_mod_left,hx]
  simp only[Nat.zero_add,List.take_zero,List.nil_append]
  rw[hl,Nat.ble_eq_true_of_le oM,List.drop_of_length_le oM,List.append_nil]
  rfl
 | [a],hl=>simp at hl; omega
 | [],hl=>simp at hl; omega
theorem Zo6 {i:Nat} {L:List (List C)} {c d:C} (hx:L[i]? = some [d]):Z0 1 L i [c]=some (L.set i [c]):=by
 simp only[Z0,Nat.div_one,hx,Nat.mod_one]
 rfl
theorem Zjy {sz i:Nat} {L:List (List C)} {e:List C} (h1:1<=sz) (hx:L[i]? = some e) (he:e.length=sz):Zn sz L (i * sz) sz=some e:=by
 unfold Zn
 have e0:Nat.beq sz 0=false:=by
  cases hb:Nat.beq sz 0 with
  | false=>rfl
  | true=>have:=bQ hb; omega
 rw[show i * sz / sz=i from Nat.mul_div_cancel _ oM,Nat.mul_mod_left,hx,e0]
 simp only[cond_false,Nat.zero_add,List.drop_zero]
 rw[Nat.ble_eq_true_of_le oM,List.take_of_length_le oM]
 rfl
theorem Zlh {te:TI} {n n' sz:Nat} {L M:List (List C)} {ro:Bool} (hsz:te.size=sz) (ho:h.get n=some (.row sz L false)) (ho':h.get n'=some (.row sz M ro)) (hM:M≠[]) (hb:(L.length+M.length) * te.bytes<=1099511627776) (hb':L.length+M.length<=1099511627776) :
  Ox h (some te) (.slice n 0 L.length sz) (.slice n' 0 M.length sz)=some (.w (.c (.slice h.next 0 (L.length+M.length) sz)),(h.del n).new (.row sz (L++M) false)):=by
 unfold Ox
 simp only[hsz,Qe ho,Qe ho',Qx,cond_true]
 cases M with
 | nil=>exact absurd rfl hM
 | cons a M =>
  simp only[Sb]
  rw[Nat.ble_eq_true_of_le hb,Nat.ble_eq_true_of_le hb']
  simp only[Bool.true_and,cond_true,Zaw,ho,Uk,hsz]
  rfl
theorem append_nil {te:TI} {n' sz:Nat} {M:List (List C)} {ro:Bool} (hsz:te.size=sz) (ho':h.get n'=some (.row sz M ro)) (hM:M≠[]) (hb:M.length * te.bytes<=1099511627776) (hb':M.length<=1099511627776) :
  Ox h (some te) .snil (.slice n' 0 M.length sz)=some (.w (.c (.slice h.next 0 M.length sz)),h.new (.row sz M false)):=by
 unfold Ox
 simp only[hsz,Qe ho',Qx,cond_true]
 cases M with
 | nil=>exact absurd rfl hM
 | cons a M =>
  simp only[Sb,Uf,List.length_nil,Nat.zero_add]
  rw[Nat.ble_eq_true_of_le hb,Nat.ble_eq_true_of_le hb']
  simp only[Bool.true_and,cond_true,Zaw,Uk,hsz,List.nil_append]
end
section
variable {K:Cfg} {n:Nat} {ts:Zx} {h:H}
theorem Z7u (x:Operand):U4 K ts h (.move x)=Tm h (Bf K ts x):=rfl
theorem Zy3 (x:Operand):U4 K ts h (.assign x)=Tm h (Bf K ts x):=rfl
theorem Z25 (op:BinOp) (t:TypeId) (x y:Operand) (u:TypeId):U4 K ts h (.binOp op t x y u)=Gr h (binop K op t (evalW K ts x) (evalW K ts y)):=rfl
theorem Z7w (op:UnOp) (t:TypeId) (x:Operand):U4 K ts h (.unOp op t x)=Gr h (Zsb op (Z4 K ts x)):=rfl
theorem Zt0 (s t:TypeId) (x:Operand):U4 K ts h (.convert s t x)=Du h (K.types.get s) (K.types.get t) (Z4 K ts x):=rfl
theorem Z7t (t:TypeId) (x:Operand):U4 K ts h (.load t x)=Zfk K h t (Z4 K ts x):=rfl
theorem Z3a (t:TypeId) (x y:Operand):U4 K ts h (.store t x y)=Zbo K h t (Z4 K ts x) (evalW K ts y):=rfl
theorem Zos (t:TypeId) (x i:Operand):U4 K ts h (.indexAddr t x i)=Gr h (Bj K (K.types.get t) (Z4 K ts x) (Oh (Z4 K ts i))):=rfl
theorem Z28 (t:TypeId) (x i:Operand):U4 K ts h (.index t x i)=Ma h (Nc K (K.types.get t) (evalW K ts x) (Oh (Z4 K ts i))):=rfl
theorem Ztz (b:Builtin) (args:Array Operand) (tys:Array TypeId):U4 K ts h (.call ⟨.builtin b,args,tys⟩)=Zt K h b tys.toList (Gq K ts args.toList):=rfl
theorem Z7v (c a b:Operand):U4 K ts h (.pick c a b)=Tm h (Zar K ts a b (Z4 K ts c)):=rfl
theorem Z24 (t:TypeId):U4 K ts h (.alloc t)=Wx h (K.types.get t):=rfl
theorem Ybc (t:TypeId) (x:Operand):U4 K ts h (.box t x)=Yx h (evalW K ts x):=rfl
theorem Z26 (t:TypeId) (ps:Array (Nat × Operand)):U4 K ts h (.build t ps)=Ma h (Yq K t (Uj K ts ps.toList)):=rfl
theorem Zla (t:TypeId) (len:Nat) (ps:Array (Nat × Operand)):U4 K ts h (.buildSlice t len ps)=Ju h len (J9 K t) (Uj K ts ps.toList):=rfl
theorem Zrn (x:Operand):U4 K ts h (.nilCheck x)=Gr h (Em (Z4 K ts x)):=rfl
theorem Zot (t:TypeId) (l c:Operand):U4 K ts h (.makeSlice t l c)=U1 h (J9 K t) (Oh (Z4 K ts l)) (Oh (Z4 K ts c)):=rfl
theorem Zor (t:TypeId) (x:Operand) (f:Nat):U4 K ts h (.fieldAddr t x f)=Gr h (Bi (Z4 K ts x) (Zw K t f)):=rfl
theorem Z27 (t:TypeId) (x:Operand) (f:Nat):U4 K ts h (.field t x f)=Ma h (Tz (evalW K ts x) (Zw K t f)):=rfl
theorem Zt1 (x:Operand) (i:Nat):U4 K ts h (.extract x i)=Ma h (Fv i (Bf K ts x)):=rfl
theorem Zy4 (t:TypeId) (x k:Operand) (ok:Bool):U4 K ts h (.lookup t x k ok)=Xh K h (El K t) (Z4 K ts x) (evalW K ts k) ok:=rfl
theorem Zou (t:TypeId) (m k v:Operand):U4 K ts h (.mapUpdate t m k v)=Fw K h (El K t) (Z4 K ts m) (evalW K ts k) (evalW K ts v):=rfl
end
theorem Zim:∀ l:List UInt8,Ow l l=true
 | []=>rfl
 | a :: l=>by simp [Ow,Zim l]
theorem Zfi (a:Nat):Nat.beq a a=true:=Nat.beq_refl a
theorem Zil:∀ l:List (Option (Nat × Nat)),eqV.eqP l l=true
 | []=>rfl
 | some (a,b) :: l=>by simp [eqV.eqP,Zil l]
 | none :: l=>by simp [eqV.eqP,Zil l]
theorem Ze5 (c:C):eqV.eqCc c c=true:=by
 cases c<;>simp [eqV.eqCc,Zim,Zil]
theorem Zik:∀ l:List C,eqV.eqL l l=true
 | []=>rfl
 | a :: l=>by simp [eqV.eqL,Ze5,Zik l]
theorem Ze8:∀ l:List W,eqV.eqT2 l l=true
 | []=>rfl
 | .c a :: l=>by simp [eqV.eqT2,Ze5,Ze8 l]
 | .g a :: l=>by simp [eqV.eqT2,Zik,Ze8 l]
theorem Z1z (v:V):eqV v v=true:=by
 cases v with
 | w x=>cases x with
  | c a=>exact Ze5 a
  | g l=>exact Zik l
 | tup l=>exact Ze8 l
theorem Ztl (v:V) (h:H):gives v (some (v,h))=true:=Z1z v
theorem Zzd {n:Nat} {ts:Zx} (d:Tmp) (v:V) (hd:Nat.blt d n=true):Tn n ts (some d) v=some (ts.set d v):=by
 unfold Tn
 simp only[hd,cond_true]
theorem Zzc {n:Nat} {ts:Zx} (v:V):Tn n ts none v=some ts:=rfl
theorem Sg {a b:Nat} (h:a<=b):Nat.ble a b=true:=Nat.ble_eq_true_of_le h
section
variable {K:Cfg} {P:Program} {n:Nat} {rd:Option Nat} {ds:List Nat} {ts:Zx} {h:H} {Q:X->List Nat->Zx->H->Prop} {id:Nat}
theorem Goes.drawn2 (F:Fits K P) (Hh:Hearts K P) {E:Task->Option Out} (S:Sound K P E) {ops:Array Oper} {ts':Zx} {h':H} (st:(Wm 0 ops.toList&&Qf ops.toList 0 ops.toList&&Rq ops.toList 0 none [] ops.toList)=true) (g:Zqq K ops.toList (Zdh K E ops.toList n 0 ops.toList ⟨ts,h,h,[],[]⟩)=some (ts',h')) (q:Q .normal ds ts' h'):Goes K P n rd (.region id ops true) ds ts h Q :=
 Goes.drawn F Hh S (by
  unfold Wn
  rw[st]
  show then2 (Zqq K ops.toList _) _
  rw[g]
  exact q)
end
def Zj0:Option Out->Option V
 | some (.val v _)=>some v
 | _=>none
theorem Zbr {o:Option Out} {v:V} (h:Zj0 o=some v):∃ h',o=some (.val v h'):=by
 unfold Zj0 at h
 split at h
 ·cases h; exact⟨_,rfl⟩
 ·cases h
section
variable {K:Cfg} {P:Program} {Y:Kn} {f:FuncId} {args:List W} {v:V}
theorem Zu.pos {h h':H} {G:Nat} (hc:Ou P f) (hg:K.globs.get G=some 0) (c:0<h.next->Zu K P f args h v h'):Zu K P f args h v h':=by
 refine⟨hc,fun ρ w vals r m hr hd ha=>?_⟩
 have hp:0<h.next:=by
  obtain⟨r,e⟩:=hr.glob G 0 hg
  rcases Nat.lt_or_ge 0 h.next with h1|h1
  ·exact h1
  ·rw[hd 0 h1] at e; cases e
 exact (c hp).2 ρ w vals r m hr hd ha
theorem Zu.closed (F:Fits K P) (Hh:Hearts K P) (hY:Zcj K P Y) {G:Nat} (hg:K.globs=Tree.set .nil G 0) {n:Nat} (e:Zj0 (evX K Y n (.call f args ⟨.nil,1⟩))=some v) (ha:args.all W.flat=true) (hv:v.flat=true) (h:H):Zu K P f args h v h:=by
 obtain⟨h1,e1⟩:=Zbr e
 have c0:Zu K P f args ⟨.nil,1⟩ v h1:=(Er F Hh hY n).call f args _ _ _ e1
 refine Zu.pos c0.1 (Zdp hg) fun hpos=>Zu.tidy c0.1 fun tidy=>?_
 have none0:∀ n o,¬ (⟨.nil,1⟩:H).get n=some o:=fun n o hn=>by cases hn
 have L:Lies K (fun n=>if n<1 then n else h.next+(n - 1)) ⟨.nil,1⟩ h:=by
  refine⟨fun n hn=>if_neg (by have:1<=n:=hn; omega),fun n hn=>?_,fun n o ho=>(none0 n o ho).elim,fun n n' o o' ho=>(none0 n o ho).elim,fun g n hgn=>?_⟩
  ·show (if n<1 then n else _)<h.next
   have:n<1:=hn
   rw[if_pos this]
   omega
  ·rw[(Ns hg hgn).2]; rfl
 have c1:=c0.frame L (h':=⟨h.m,h.next+(h1.next - 1)⟩) ⟨rfl,fun m o ho=>.inl ⟨ho,fun n o' ho'=>(none0 n o' ho').elim⟩⟩
 rw[Jm (fun a ha=>W.Y7 ha _) ha,V.Y7 hv] at c1
 exact c1.quiet hv fun m _=>rfl
theorem Zu.closed1 (F:Fits K P) (Hh:Hearts K P) (hY:Zcj K P Y) {G:Nat} (hg:K.globs=Tree.set .nil G 0) {n sz len:Nat} {els:List (List C)} {us:List W} (e:Zj0 (evX K Y n (.call f (us++[.c (.slice 1 0 len sz)]) ⟨.node none (.node (some (.row sz els true)) .nil .nil) .nil,2⟩))=some v) (ha:us.all W.flat=true) (he:els.all (fun l=>l.all C.flat)=true) (hv:v.flat=true) (h:H) (m:Nat) (hm:h.get m=some (.row sz els false)):Zu K P f (us++[.c (.slice m 0 len sz)]) h v h:=by
 obtain⟨h1,e1⟩:=Zbr e
 have c0:=(Er F Hh hY n).call f _ _ _ _ e1
 refine Zu.pos c0.1 (Zdp hg) fun hpos=>Zu.tidy c0.1 fun tidy=>?_
 have only:∀ n o,(⟨.node none (.node (some (.row sz els true)) .nil .nil) .nil,2⟩:H).get n=some o->n=1/\o=.row sz els true:=fun n o hn=>by
  have hn':(Tree.node none (.node (some (O.row sz els true)) .nil .nil) .nil).get n=some o:=hn
  rw[Tree.Gv] at hn'
  split at hn'
  ·cases hn'
  ·split at hn'
   ·rw[Tree.Gv] at hn'
    split at hn'
    ·cases hn'; exact⟨oM,rfl⟩
    ·split at hn'<;>(rw[Tree.Es] at hn'; cases hn')
   ·rw[Tree.Es] at hn'; cases hn'
 have fl:∀ σ:Nat->Nat,(O.row sz els false).ren σ=.row sz els false:=fun σ=>by
  show O.row sz (els.map (List.map (C.ren σ))) false=_
  rw[Jm (fun l hl=>Jm (fun a ha=>C.Y7 ha _) hl) he]
 have L:Lies K (fun n=>if n<1 then n else if n<2 then m else h.next+(n - 2)) ⟨.node none (.node (some (.row sz els true)) .nil .nil) .nil,2⟩ h:=by
  refine⟨fun n hn=>?_,fun n hn=>?_,fun n o ho=>?_,fun n n' o o' ho ho' hne=>?_,fun g n hgn=>?_⟩
  ·have:2<=n:=hn
   show (if n<1 then n else if n<2 then m else h.next+(n - 2))=h.next+(n - 2)
   rw[if_neg oM,if_neg oM]
  ·have:n<2:=hn
   have:=tidy m _ hm
   show (if n<1 then n else if n<2 then m else _)<h.next
   by_cases h1:n<1
   ·rw[if_pos h1]; omega
   ·rw[if_neg h1,if_pos oM]; exact this
  ·obtain⟨rfl,rfl⟩:=only n o ho
   exact⟨rfl,_,hm,.inr ⟨sz,els,rfl,(fl _).symm⟩⟩
  ·exact absurd ((only n o ho).1.trans (only n' o' ho').1.symm) hne
  ·rw[(Ns hg hgn).2]; rfl
 have c1:=Zu.frame c0 L (h':=⟨h.m,h.next+(h1.next - 2)⟩) ⟨rfl,fun k o ho=>.inl ⟨ho,fun n o' ho' _=>by rw[(only n o' ho').2]; rfl⟩⟩
 rw[List.map_append,Jm (fun a ha=>W.Y7 ha _) ha,V.Y7 hv] at c1
 exact c1.quiet hv fun m _=>rfl
end
def Oq:List C->Option (List Nat)
 | []=>some []
 | .int .u8 (.ofNat n) :: l=>bif Nat.blt n 256 then (match Oq l with
  | some r=>some (n :: r)
  | none=>none) else none
 | _=>none
theorem Zcr:∀ {l:List C} {r:List Nat},Oq l=some r->r.length=l.length/\∀ (j b:Nat),r[j]? = some b->b<256/\l[j]? = some (.int .u8 (b:Int))
 | [],r,h=>by
  cases h
  exact⟨rfl,fun j b h=>by simp at h⟩
 | .int .u8 (.ofNat n) :: l,r,h=>by
  simp only[Oq] at h
  cases hb:Nat.blt n 256 with
  | false=>rw[hb] at h; cases h
  | true =>
   rw[hb] at h
   simp only[cond_true] at h
   cases hr:Oq l with
   | none=>rw[hr] at h; cases h
   | some r' =>
    rw[hr] at h
    cases h
    obtain⟨h1,h2⟩:=Zcr hr
    refine⟨by simp [h1],fun j b hj=>?_⟩
    cases j with
    | zero =>
     simp at hj
     subst hj
     exact⟨by simpa [Nat.blt_eq] using hb,rfl⟩
    | succ j=>exact h2 j b (by simpa using hj)
 | .int .u8 (.negSucc _) :: _,_,h=>by simp [Oq] at h
 | .int .i8 _ :: _,_,h=>by simp [Oq] at h
 | .int .i16 _ :: _,_,h=>by simp [Oq] at h
 | .int .i32 _ :: _,_,h=>by simp [Oq] at h
 | .int .i64 _ :: _,_,h=>by simp [Oq] at h
 | .int .u16 _ :: _,_,h=>by simp [Oq] at h
 | .int .u32 _ :: _,_,h=>by simp [Oq] at h
 | .int .u64 _ :: _,_,h=>by simp [Oq] at h
 | .bool _ :: _,_,h=>by simp [Oq] at h
 | .str _ :: _,_,h=>by simp [Oq] at h
 | .ptr _ _ :: _,_,h=>by simp [Oq] at h
 | .pnil :: _,_,h=>by simp [Oq] at h
 | .slice _ _ _ _ :: _,_,h=>by simp [Oq] at h
 | .snil :: _,_,h=>by simp [Oq] at h
 | .map _ :: _,_,h=>by simp [Oq] at h
 | .mnil :: _,_,h=>by simp [Oq] at h
 | .fn _ _ _ :: _,_,h=>by simp [Oq] at h
 | .yield _ :: _,_,h=>by simp [Oq] at h
 | .nilFn :: _,_,h=>by simp [Oq] at h
theorem Zcd {sz off n:Nat} {els:List (List C)} {l:List C} (h:Zn sz els off n=some l) (hn:off % sz+n<=sz):l.length=n/\∀ j,j<n->read1 sz els (off+j)=l[j]?:=by
 unfold Zn at h
 cases e:Nat.beq n 0 with
 | true =>
  have:=bQ e
  subst this
  rw[e] at h
  cases h
  exact⟨rfl,fun j hj=>by omega⟩
 | false =>
  rw[e] at h
  simp only[cond_false] at h
  cases hx:els[off / sz]? with
  | none=>rw[hx] at h; cases h
  | some x =>
   rw[hx] at h
   simp only at h
   cases hb:Nat.ble (off % sz+n) x.length with
   | false=>rw[hb] at h; cases h
   | true =>
    rw[hb] at h
    cases h
    have hle:off % sz+n<=x.length:=lQ hb
    refine⟨by simp; omega,fun j hj=>?_⟩
    have hpos:0<sz:=oM
    have e1:(off+j) / sz=off / sz:=by
     have h1:=Nat.div_add_mod off sz
     have h2:off+j=sz * (off / sz)+(off % sz+j):=oM
     rw[h2,Nat.mul_add_div hpos,Nat.div_eq_of_lt (show off % sz+j<sz by omega),Nat.add_zero]
    have e2:(off+j) % sz=off % sz+j:=by
     have h1:=Nat.div_add_mod off sz
     have h2:off+j=sz * (off / sz)+(off % sz+j):=oM
     rw[h2,Nat.mul_add_mod,Nat.mod_eq_of_lt (show off % sz+j<sz by omega)]
    unfold read1
    rw[e1,e2,hx]
    rw[List.getElem?_take_of_lt hj,List.getElem?_drop]
open Go.RowKit
section
variable {K:Cfg} {P:Program} {n:Nat} {rd:Option Nat} {ds:List Nat} {ts:Zx} {h:H} {Q R:X->List Nat->Zx->H->Prop} {a b c:Code} {id:Nat}
theorem Zu.Yde (F:Fits K P) (Hh:Hearts K P) {f:FuncId} {fn:Func} {body:Code} {args:List W} {R:V->H->Prop} (hc:K.clones.contains f=false) (hs:K.sorted.lookup f=none) (hf:K.funcs.get f=some fn) (hb:fn.body=some body) (hn:Nat.ble args.length fn.ntmps=true)
  (g:Goes K P fn.ntmps none body [] (Ug 0 args .nil) h fun x ds ts h1=>∃ v h',leave K fn (some (.at x ds ts h1))=some (.val v h')/\R v h'):∃ v h',Zu K P f args h v h'/\R v h':=by
 obtain⟨x,ds',ts',h1,g1,v,h',g2,r⟩:=g
 exact⟨v,h',Zu.body F Hh hc hs hf hb hn g1 g2,r⟩
end
theorem Zc6 {K:Cfg} {E:Task->Option Out} {ts:Zx} {h:H} (f:FuncId) (a b:Array Operand):Uh K E ts h (.makeFunc (.func f) a b)=Gr h (S9 f (Gq K ts a.toList) (Gq K ts b.toList)):=rfl
theorem Znd {K:Cfg} {E:Task->Option Out} {ts:Zx} {h:H} (t:TypeId):Uh K E ts h (.makeMap t none)=Mf h:=rfl
theorem Zxz {K:Cfg} {E:Task->Option Out} {ts:Zx} {h:H} (t:TypeId) (x:Operand) (lo hi:Option Operand):Uh K E ts h (.slice t x lo hi none)=Gr h (Ol K h (K.types.get t) (Z4 K ts x) (Eb K ts lo) (Eb K ts hi)):=rfl
theorem Zs0 {K:Cfg} {E:Task->Option Out} {ts:Zx} {h:H} (t:TypeId) (x:Operand) (lo hi:Option Operand) (m:Operand):Uh K E ts h (.slice t x lo hi (some m))=Gr h (Zd4 K h (K.types.get t) (Z4 K ts x) (Eb K ts lo) (Eb K ts hi) (Eb K ts (some m))):=rfl
theorem Zcp {K:Cfg} {E:Task->Option Out} {all rest:List Oper} {n:Nat} {ts ts':Zx} {h h':H} {o:Oper} {r:Option (Zx × H)} (e:Zdi K E all n ts h o=some (ts',h')) (g:Fu K E all n rest ts' h'=r):Fu K E all n (o :: rest) ts h=r:=by
 rw[Wo,e]
 exact g
theorem Zco {K:Cfg} {E:Task->Option Out} {all:List Oper} {n:Nat} {ts:Zx} {h:H}:Fu K E all n [] ts h=some (ts,h):=rfl
theorem Zb5 {a b:Nat} (h:a<b):Nat.blt a b=true:=Gu h
theorem Q8 {a b:Nat} (h:a<=b):Nat.ble a b=true:=Nat.ble_eq_true_of_le h
theorem Z9e {a b:Nat} (h:a=b):Nat.beq a b=true:=by subst h; exact Nat.beq_refl a
theorem Q6 {a b:Nat} (h:a≠b):Nat.beq a b=false:=by
 cases hx:Nat.beq a b with
 | false=>rfl
 | true=>exact absurd (bQ hx) h
theorem Ycr {a b:Nat} (h:b<=a):Nat.blt a b=false:=by
 cases hx:Nat.blt a b with
 | false=>rfl
 | true=>rw[Nat.blt_eq] at hx; omega
theorem Zxh {z:Int} (h : -9223372036854775808<=z/\z<9223372036854775808):Jk .i64 z=.int .i64 z:=wrap64 h.1 h.2
theorem Za2 {z:Int} (h:0<=z/\z<4294967296):Jk .u32 z=.int .u32 z:=by
 unfold Jk IntKind.wrap
 congr 1
 show (z % 4294967296)=z
 omega
theorem Zka {z:Int} (h:0<=z/\z<65536):Jk .u16 z=.int .u16 z:=by
 unfold Jk IntKind.wrap
 congr 1
 show (z % 65536)=z
 omega
theorem Zen {z:Int} (h:0<=z/\z<256):Jk .u8 z=.int .u8 z:=by
 unfold Jk IntKind.wrap
 congr 1
 show (z % 256)=z
 omega
theorem Yes {p:Prop} [Decidable p] (h:p):decide p=true:=decide_eq_true h
theorem Yer {p:Prop} [Decidable p] (h:¬p):decide p=false:=decide_eq_false h
theorem Qm {a b:Int} (h:a=b):(a == b)=true:=by simpa using h
theorem D7 {a b:Int} (h:a≠b):(a == b)=false:=by simpa using h
theorem Nu {a b:Int} (h:a≠b):(a != b)=true:=by simpa using h
theorem Z2h {a b:Int} (h:a=b):(a != b)=false:=by simpa using h
theorem Zv7 {f:Nat->Nat->Nat} {a b:Nat} (ha:a<256) (hb:b<256) (hf:f a b<256):Db .u8 f (a:Int) (b:Int)=.int .u8 (f a b:Nat):=by
 unfold Db
 have e1:((a:Int) % 2 ^ IntKind.u8.bits).toNat=a:=by
  show ((a:Int) % 256).toNat=a
  omega
 have e2:((b:Int) % 2 ^ IntKind.u8.bits).toNat=b:=by
  show ((b:Int) % 256).toNat=b
  omega
 rw[e1,e2]
 exact Zen oM
theorem Ff {k:IntKind} {a b:Nat} (hb:0<b):Rj k (a:Int) (b:Int)=some (.int k ((a % b:Nat):Int)):=by
 unfold Rj
 have:((b:Int) == 0)=false:=by simp; omega
 rw[this]
 rfl
theorem Lp {a b:Nat} (hb:0<b) (ha:a<9223372036854775808):Va .i64 (a:Int) (b:Int)=some (.int .i64 ((a / b:Nat):Int)):=by
 unfold Va
 have:((b:Int) == 0)=false:=by simp; omega
 rw[this,cond_false]
 have e:(a:Int).tdiv b=((a / b:Nat):Int):=rfl
 have h1:a / b<=a:=Nat.div_le_self _ _
 rw[e,Zxh]
 generalize a / b=q at h1
 omega
theorem Z79 {k:IntKind} {a n:Nat} (h:0<(OfNat.ofNat n:Nat)):Rj k (a:Int) (no_index (OfNat.ofNat n:Int))=some (.int k ((a % (OfNat.ofNat n:Nat):Nat):Int)):=Ff (b:=n) h
theorem Z74 {a n:Nat} (h:0<(OfNat.ofNat n:Nat)/\a<9223372036854775808):Va .i64 (a:Int) (no_index (OfNat.ofNat n:Int))=some (.int .i64 ((a / (OfNat.ofNat n:Nat):Nat):Int)):=Lp (b:=n) h.1 h.2
theorem Zyw {k:IntKind} {z:Int} (h:0<=z):Oh (some (.int k z))=some z.toNat:=by
 obtain⟨m,rfl⟩:=Int.eq_ofNat_of_zero_le h
 rfl
theorem Z5o {E:Task->Option Out} {f g:FuncId} {args us:List W} {h k:H} {v:V} {h':H} (e:g≠f):E1 E f args h v h' (.call g us k)=E (.call g us k):=by
 simp [E1,e]
theorem Z3i {n d:Nat} {ts:Zx} {h:H} {v:V} (hd:d<n):Qo n ts (some d) (some (v,h))=some (ts.set d v,h):=Zz d v (Zb5 hd)
theorem Z73 {n d:Nat} {ts:Zx} {v:V} (hd:d<n):Tn n ts (some d) v=some (ts.set d v):=Zzd d v (Zb5 hd)
theorem Zxr:Zex (.pointer none)=some (.w (.c .pnil)):=rfl
theorem Zxs:Zex (.slice none 0 0)=some (.w (.c .snil)):=rfl
theorem Zxq:Zex (.map none)=some (.w (.c .mnil)):=rfl
theorem Zsw:Zex .nilFunc=some (.w (.c .nilFn)):=rfl
theorem Z0k (s:ByteArray):Zex (.string s)=some (.w (.c (.str s.data.toList))):=rfl
theorem Zy (h:H) (n:Nat) (o:O):(h.put n o).get n=some o:=by rw[H.get_put,if_pos rfl]
theorem Ze {h:H} {n m:Nat} {o:O} (e:m≠n):(h.put n o).get m=h.get m:=by rw[H.get_put,if_neg e]
theorem O3 (h:H) (o:O):(h.new o).get h.next=some o:=by rw[H.Zq,if_pos rfl]
theorem Yf {h:H} {m:Nat} {o:O} (e:m≠h.next):(h.new o).get m=h.get m:=by rw[H.Zq,if_neg e]
theorem U8 {h:H} {m:Nat} {o:O} (e:m<=h.next/\h.next<=m):(h.new o).get m=some o:=by rw[show m=h.next by omega,O3]
theorem Ziw {h:H} {n m:Nat} (e:m≠n):(h.del n).get m=h.get m:=by rw[H.D5,if_neg e]
attribute [go_sem] Wo Ze9 Zqv Zqu D9 Zev Tree.Zbi List.getElem?_cons_succ List.getElem?_cons_zero Uj Z0p Zsx Zxu Z0r Zp3 Z0o Zx1 Zk1 Z0m Z0q Z5w Zxv Zhw Zne Zk2 Zk0 Zxw Zp4 Zsy Zk3 Zp2 Z55 Zs3 Zs4 Zx3 Z57 Z56 Z07 Zrp Zro Zrr Zrq Z0n Zxx evalW Z4 Gq Ya Zqx Ztg Z0j Zxp asW asC Zp binop Zv6 Z58 Zsb Gr Ma Tm Ybd Zme Zfk Go.Ev.load Zbo Go.Ev.store putRow Bj Zq9 Zyy Zyx Du Wx Zjg Z3i Zt5 Sk Ov List.map_nil List.nil_append List.append_nil cond_true cond_false H.Zd H.Zc if_true Em Zar Fv Bi Zv9 Zwa List.length_cons List.length_nil Yz Yo nbeq10 Ycp Yco Ycn Ycm Bool.not_true Bool.not_false
attribute [go_sem] Zy Ze O3 Yf U8 Ziw H.Yv Zxh Za2 Zka Zen Zyw Zb5 Q8 Z9e Q6 Ycr Nat.beq_refl Uw
attribute [go_sem] Et Zoj Ji finish Jb Ue
attribute [go_sem] Int.toNat_natCast Zxr Zxs Zxq Zsw Z0k Option.toList_some Option.toList_none Yaa Z1x eqC isB Z20 Z5o Nat.zero_add Nat.mul_one cW gW List.getElem?_nil
attribute [go_sem] Zc6 Znd Zxz Zs0 S9 ptrs Mf
attribute [go_sem] Z79 Z74 Yes Yer Qm D7 Nu Z2h
attribute [go_sem] Bool.and_true Bool.true_and Bool.and_false Bool.false_and Bool.and_self Bool.or_true Bool.true_or Bool.or_false Bool.false_or List.getElem?_cons_zero
attribute [go_sem] Yh Eh partOf Tz Yab List.set_cons_zero List.set_cons_succ List.take_succ_cons List.drop_succ_cons List.take_zero List.drop_zero List.take_nil List.drop_nil List.cons_append List.singleton_append Z9
attribute [go_sem] piece part0 part1 part2 Ybe Ybf part3 part4 part5 part6 J7 Z7x
section
variable {K:Cfg} {P:Program} {n:Nat} {rd:Option Nat} {ds:List Nat} {ts:Zx} {h:H} {Q:X->List Nat->Zx->H->Prop} {q a b:Code} {id:Nat}
theorem Goes.Zh {o:Operand} {v:Bool} (hc:Z4 K ts o=some (.bool v)) (g:Goes K P n rd (bif v then a else b) ds ts h Q):Goes K P n rd (.cond o a b) ds ts h Q:=by
 cases v with
 | true=>exact Goes.Ycy hc g
 | false=>exact Goes.Ycx hc g
end
theorem lens:(∀ (h:H) (o:O),(h.new o).next=h.next+1)/\(∀ (h:H) (n:Nat) (o:O),(h.put n o).next=h.next)/\(∀ a b:List C,(a++b).length=a.length+b.length)/\(∀ (n:Nat) (x:C),(List.replicate n x).length=n)/\(∀ (x:C) (l:List C),(x :: l).length=l.length+1)/\([]:List C).length=0/\(∀ (n:Nat) (l:List C),(l.take n).length=min n l.length)/\(∀ (l:List C) (i:Nat) (c:C),(l.set i c).length=l.length)/\(∀ (l:List Nat) (i c:Nat),(l.set i c).length=l.length) :=
 ⟨H.Zc,H.Zd,fun _ _=>List.length_append,fun _ _=>List.length_replicate,fun _ _=>List.length_cons,rfl,fun _ _=>List.length_take,fun _ _ _=>List.length_set,fun _ _ _=>List.length_set⟩
theorem dZ {p:Prop} (h:p:=by first|omega|(simp only[lens]<;>omega)|decide):p:=h
attribute [go_sem] Z7u Zy3 Z25 Z7w Zt0 Z7t Z3a Zos Z24 Z7v Ybc Z26 Zla Zrn Zot Zor Z27 Zt1 Zy4 Zou Ztz Z28
attribute [go_sem] Zqq Zdh Zlu Yam Yc7 Zta Ztb Znz Zlt Ztc V5 Z73 Zzc Ed looks Z9r Op.operands Call.operands kd Ztu Qg stable Zee Zjx waits Ztl Region.binds
theorem drG:(∀ (α β:Type) (f:α->Option β) (a:α) (l:List α),(a :: l).filterMap f=match f a with|none=>l.filterMap f|some b=>b :: l.filterMap f)/\(∀ (α β:Type) (f:α->Option β),List.filterMap f []=[])/\(∀ (α:Type) (l:List α),l++[]=l)/\(∀ (α:Type) (l:List α),[]++l=l)/\(∀ (α:Type) (p:α->Bool) (a:α) (l:List α),(a :: l).all p=(p a&&l.all p))/\(∀ (α:Type) (p:α->Bool),List.all [] p=true)/\(∀ (α:Type) (p:α->Bool) (a:α) (l:List α),(a :: l).any p=(p a || l.any p))/\(∀ (α:Type) (p:α->Bool),List.any [] p=false)/\(∀ (α β:Type) (f:α->β) (a:α) (l:List α),(a :: l).map f=f a :: l.map f)/\(∀ (α:Type) (a b:Array α),(a++b).toList=a.toList++b.toList)/\(∀ a b:Nat,a<=b->Nat.ble a b=true)/\(∀ a:Nat,a<=a)/\∀ a b:Nat,a<=a+b :=
 ⟨fun _ _ _ _ _=>List.filterMap_cons,fun _ _ _=>rfl,fun _ l=>List.append_nil l,fun _ _=>rfl,fun _ _ _ _=>rfl,fun _ _=>rfl,fun _ _ _ _=>rfl,fun _ _=>rfl,fun _ _ _ _ _=>rfl,fun _ _ _=>Array.toList_append,fun _ _ h=>Sg h,Nat.le_refl,fun a b=>Nat.le_add_right a b⟩
open Go.RowKit
section
variable {K:Cfg} {P:Program} {n:Nat} {rd:Option Nat} {ds:List Nat} {ts:Zx} {h:H} {Q:X->List Nat->Zx->H->Prop} {id:Nat}
def Z9y (Q:X->List Nat->Zx->H->Prop) (ds:List Nat) (ts:Zx) (h:H):Option Code->Prop
 | none=>Q .normal ds ts h
 | some (.exit id)=>Q (.exit id) ds ts h
 | some .ret=>Q .ret ds ts h
 | _=>False
theorem Zov {pend:Option Code} (q:Z9y Q ds ts h pend):∃ x,pending ds ts h pend=some (.at x ds ts h)/\Q x ds ts h:=by
 cases pend with
 | none=>exact⟨.normal,rfl,q⟩
 | some c=>cases c<;>first|exact⟨_,rfl,q⟩|exact q.elim
theorem Goes.range (F:Fits K P) (Hh:Hearts K P) {g:Operand} {ps:Array Tmp} {assign body:Code} {f:FuncId} {first caps:List (Option (Nat × Nat))} (hg:Z4 K ts g=some (.fn f first caps)) {v:V} {h3:H} (c:Zu K P f (Ov [.c (.yield (h.next+1))] first caps) ((h.new .defers).new (.loop ts n ps.toList assign body .ready none h.next)) v h3)
  {ts':Zx} {n':Nat} {ps':List Tmp} {us1' bd':Code} {st:LoopState} {pend:Option Code} {d:Nat} (hl:h3.get (h.next+1)=some (.loop ts' n' ps' us1' bd' st pend d)) (hst:st≠.busy)
  (q:Z9y Q (h.next :: ds) ts (h3.put (h.next+1) (.loop ts' n' ps' us1' bd' .exhausted pend d)) pend):Goes K P n none (.rangeFunc g ps assign body) ds ts h Q:=by
 obtain⟨x,e,q'⟩:=Zov q
 have S:=Zj Za c
 have T:=Ml F Hh S (Zbc F S)
 refine⟨x,_,_,_,T.code (.rangeFunc g ps assign body) n none ds ts h x _ _ _ ?_,q'⟩
 show Zhi _ ps.toList assign body n none ds ts h (Z4 K ts g)=_
 rw[hg]
 show endLoop (h.next :: ds) ts (h.new .defers).next (E1 E0 f _ _ v h3 (.call f (Ov [.c (.yield (h.new .defers).next)] first caps) ((h.new .defers).new (.loop ts n ps.toList assign body .ready none h.next))))=_
 rw[show (h.new .defers).next=h.next+1 from rfl,Z7]
 show (match h3.get (h.next+1) with
  | some (.loop ts' n' ps ag bd st pend d)=>(match st with
   | .busy=>none
   | _=>pending (h.next :: ds) ts (h3.put (h.next+1) (.loop ts' n' ps ag bd .exhausted pend d)) pend)
  | _=>none)=_
 rw[hl]
 cases st with
 | busy=>exact absurd rfl hst
 | _=>exact e
theorem exE {α β:Type} {A R S:α->β->Prop} (x:∃ a b,A a b/\R a b) (q:∀ a b,R a b->S a b):∃ a b,A a b/\S a b:=by
 obtain⟨a,b,h1,h2⟩:=x
 exact⟨a,b,h1,q a b h2⟩
theorem Goes.Zfq (F:Fits K P) (Hh:Hearts K P) {g:Operand} {ps:Array Tmp} {assign body:Code} {f:FuncId} {first caps:List (Option (Nat × Nat))} (hg:Z4 K ts g=some (.fn f first caps))
  (e:∃ v h3,Zu K P f (Ov [.c (.yield (h.next+1))] first caps) ((h.new .defers).new (.loop ts n ps.toList assign body .ready none h.next)) v h3 /\
   ∃ st pend ts' n' ps' us1' bd' d,h3.get (h.next+1)=some (.loop ts' n' ps' us1' bd' st pend d)/\st≠.busy/\Z9y Q (h.next :: ds) ts (h3.put (h.next+1) (.loop ts' n' ps' us1' bd' .exhausted pend d)) pend):Goes K P n none (.rangeFunc g ps assign body) ds ts h Q:=by
 obtain⟨v,h3,c,st,pend,ts',n',ps',us1',bd',d,hl,hst,q⟩:=e
 exact Goes.range F Hh hg c hl hst q
open Classical in
noncomputable def EA (E:Task->Option Out) (f:FuncId) (args:List W) (v:H->V) (g:H->H):Task->Option Out:=fun t=>match t with
 | .call f' args' h=>if f'=f/\args'=args then some (.val (v h) (g h)) else E t
 | t=>E t
theorem Y4 {E:Task->Option Out} (S:Sound K P E) {f:FuncId} {args:List W} {v:H->V} {g:H->H} (c:∀ h,Zu K P f args h (v h) (g h)):Sound K P (EA E f args v g):=by
 refine⟨fun f' us k u k' he=>?_,fun c n rd ds ts h x ds' ts' h' he=>?_,fun t o he=>?_⟩
 ·simp only[EA] at he
  split at he
  ·rename_i e
   obtain⟨rfl,rfl⟩:=e
   cases he
   exact c k
  ·exact S.call f' us k u k' he
 ·exact S.code c n rd ds ts h x ds' ts' h' he
 ·cases t with
  | code c n rd ds ts h=>exact S.shape _ o he
  | call f' us k =>
   simp only[EA] at he
   split at he
   ·cases he
    exact .inl ⟨_,_,_,_,_,rfl,rfl⟩
   ·exact S.shape _ o he
theorem Z5p (E:Task->Option Out) (f:FuncId) (args:List W) (v:H->V) (g:H->H) (h:H):EA E f args v g (.call f args h)=some (.val (v h) (g h)):=by simp [EA]
theorem Z5q {E:Task->Option Out} {f f':FuncId} {args us:List W} {v:H->V} {g:H->H} {h:H} (e:f'≠f):EA E f args v g (.call f' us h)=E (.call f' us h):=by
 simp [EA,e]
attribute [go_sem] Z5p Z5q
open Classical in
noncomputable def E1c (E:Task->Option Out) (c:Code) (n:Nat) (rd:Option Nat) (ds:List Nat) (ts:Zx) (h:H) (x:X) (ds':List Nat) (ts':Zx) (h':H):Task->Option Out:=fun t=>if t=.code c n rd ds ts h then some (.at x ds' ts' h') else E t
theorem Dq {E:Task->Option Out} (S:Sound K P E) {c:Code} {x:X} {ds':List Nat} {ts':Zx} {h':H} (k:Yg K P n rd c ds ts h x ds' ts' h'):Sound K P (E1c E c n rd ds ts h x ds' ts' h'):=by
 refine⟨fun g us k' u k2 he=>?_,fun c2 n2 rd2 ds2 ts2 h2 x2 ds3 ts3 h3 he=>?_,fun t o he=>?_⟩
 ·simp only[E1c] at he
  split at he
  ·rename_i e
   cases e
  ·exact S.call g us k' u k2 he
 ·simp only[E1c] at he
  split at he
  ·rename_i e
   cases e
   cases he
   exact k
  ·exact S.code c2 n2 rd2 ds2 ts2 h2 x2 ds3 ts3 h3 he
 ·simp only[E1c] at he
  split at he
  ·rename_i e
   cases e
   cases he
   exact .inr ⟨_,_,_,_,_,_,_,_,_,_,rfl,rfl⟩
  ·exact S.shape t o he
theorem Ex (E:Task->Option Out) (c:Code) (n:Nat) (rd:Option Nat) (ds:List Nat) (ts:Zx) (h:H) (x:X) (ds':List Nat) (ts':Zx) (h':H):E1c E c n rd ds ts h x ds' ts' h' (.code c n rd ds ts h)=some (.at x ds' ts' h'):=by simp [E1c]
theorem Q0 {E:Task->Option Out} {c:Code} {x:X} {ds':List Nat} {ts':Zx} {h':H} {c2:Code} {n2:Nat} {rd2:Option Nat} {ds2:List Nat} {ts2:Zx} {h2:H} (e:Task.code c2 n2 rd2 ds2 ts2 h2≠Task.code c n rd ds ts h):E1c E c n rd ds ts h x ds' ts' h' (.code c2 n2 rd2 ds2 ts2 h2)=E (.code c2 n2 rd2 ds2 ts2 h2):=by
 unfold E1c
 rw[if_neg e]
theorem Mj {E:Task->Option Out} {l:Nat} {args:List W} {lts:Zx} {ps:List Tmp} {assign body:Code} {st0:LoopState} {pend0:Option Code} {d:Nat} {ts1:Zx} (hl:h.get l=some (.loop lts n ps assign body st0 pend0 d)) (hz:Oa n ps args lts=some ts1)
  {ds1:List Nat} {ts2:Zx} {h1:H} (ha:E (.code assign n (some l) [] ts1 h)=some (.at .normal ds1 ts2 h1))
  {lts':Zx} {n':Nat} {ps':List Tmp} {us1' bd':Code} {pend:Option Code} {d':Nat} (hl1:h1.get l=some (.loop lts' n' ps' us1' bd' .ready pend d'))
  {x:X} {ds2:List Nat} {ts3:Zx} {h2:H} (hb:E (.code body n (some l) ds1 ts2 (h1.put l (.loop lts' n' ps' us1' bd' .busy pend d')))=some (.at x ds2 ts3 h2))
  {lts2:Zx} {n2:Nat} {ps2:List Tmp} {as2 bd2:Code} {p2:Option Code} {d2:Nat} (hl2:h2.get l=some (.loop lts2 n2 ps2 as2 bd2 .busy p2 d2)) :
  J5 E l (some args) h (h.get l)=some (.val (.w (.c (.bool (Zrd x)))) (h2.put l (.loop lts2 n2 ps2 as2 bd2 (Zo0 x) (Zoi x) d2))):=by
 rw[hl]
 simp only[J5,hz,ha,Xf,hl1,hb,endRound,hl2]
end
open Go.RowKit
section
variable {K:Cfg} {P:Program} {f:FuncId} {args:List W} {h h1 h2:H} {v:V}
abbrev Kn1:=List W->H->Option (V × H)
def Z7y:Option (V × H)->Option Out
 | some (v,h)=>some (.val v h)
 | none=>none
theorem Zy5 (v:V) (h:H):Z7y (some (v,h))=some (.val v h):=rfl
theorem Zw5 {r:Option (V × H)} {o:Out} (e:Z7y r=some o):∃ v h,r=some (v,h)/\o=.val v h:=by
 match r with
 | some (v,h)=>cases e; exact⟨v,h,rfl,rfl⟩
 | none=>cases e
noncomputable def EX (E:Task->Option Out) (f:FuncId) (x:Kn1):Task->Option Out:=fun t=>match t with
 | .call g args h=>bif Nat.beq g f then Z7y (x args h) else E (.call g args h)
 | t=>E t
theorem R7 {E:Task->Option Out} (S:Sound K P E) {f:FuncId} {x:Kn1} (c:∀ args h v h',x args h=some (v,h')->Zu K P f args h v h'):Sound K P (EX E f x):=by
 refine⟨fun g us k u k' he=>?_,fun c n rd ds ts h x ds' ts' h' he=>?_,fun t o he=>?_⟩
 ·simp only[EX] at he
  cases hb:Nat.beq g f with
  | true =>
   rw[hb] at he
   obtain⟨v,h,e,e2⟩:=Zw5 he
   cases e2
   obtain rfl:=bQ hb
   exact c _ _ _ _ e
  | false=>rw[hb] at he; exact S.call g us k u k' he
 ·exact S.code c n rd ds ts h x ds' ts' h' he
 ·cases t with
  | code c n rd ds ts h=>exact S.shape _ o he
  | call g us k =>
   simp only[EX] at he
   cases hb:Nat.beq g f with
   | true =>
    rw[hb] at he
    obtain⟨v,h,e,e2⟩:=Zw5 he
    exact .inl ⟨_,_,_,_,_,rfl,e2⟩
   | false=>rw[hb] at he; exact S.shape _ o he
theorem EY {E:Task->Option Out} (S:Sound K P E) {f:FuncId} {x:Kn1} (c:∀ {args:List W} {h h':H} {v:V},x args h=some (v,h')->Zu K P f args h v h'):Sound K P (EX E f x):=R7 S fun _ _ _ _ e=>c e
theorem Z5s (E:Task->Option Out) (f:FuncId) (x:Kn1) (args:List W) (h:H):EX E f x (.call f args h)=Z7y (x args h):=by
 simp only[EX,Nat.beq_refl,cond_true]
theorem Z5t {E:Task->Option Out} {f g:FuncId} {x:Kn1} {args:List W} {h:H} (e:g≠f):EX E f x (.call g args h)=E (.call g args h):=by
 have:Nat.beq g f=false:=Q6 e
 simp only[EX,this,cond_false]
def Y5 {α:Type} (c:Bool) (k:Option α):Option α:=bif c then k else none
theorem Zx2 {α:Type} (k:Option α):Y5 true k=k:=rfl
theorem Zv {α:Type} {c:Bool} {k:Option α} {r:α}:Y5 c k=some r ↔ c=true/\k=some r:=by
 cases c
 ·refine⟨fun e=>?_,fun e=>?_⟩
  ·cases e
  ·cases e.1
 ·exact⟨fun e=>⟨rfl,e⟩,fun e=>e.2⟩
theorem Zk {α β:Type} {o:Option α} {g:α->Option β} {r:β} (e:o.bind g=some r):∃ a,o=some a/\g a=some r:=by
 cases o with
 | none=>cases e
 | some a=>exact⟨a,rfl,e⟩
def Zxo (b:Nat) (o:O):Prop:=o.simple=true/\o.ro=false/\∀ τ:Nat->Nat,(∀ m,m<b->τ m=m)->o.ren τ=o
def Zky (b:Nat) (v:V):Prop:=∀ τ:Nat->Nat,(∀ m,m<b->τ m=m)->v.ren τ=v
def Vt (h h2:H):Prop:=h2.next=h.next/\∀ m o,h2.get m=some o->m<h.next/\(h.get m=some o\/Zxo h.next o)
theorem Vt.refl (tidy:∀ n o,h.get n=some o->n<h.next):Vt h h:=⟨rfl,fun m o e=>⟨tidy m o e,.inl e⟩⟩
theorem Vt.put {n:Nat} {o:O} (nr:Vt h h2) (hn:n<h.next) (lo:Zxo h.next o):Vt h (h2.put n o):=by
 refine⟨by rw[H.Zd]; exact nr.1,fun m o' e=>?_⟩
 rw[H.get_put] at e
 split at e
 ·rename_i hm
  subst hm
  cases e
  exact⟨hn,.inr lo⟩
 ·exact nr.2 m o' e
theorem Zky.flat {b:Nat} (e:v.flat=true):Zky b v:=fun τ _=>V.Y7 e τ
theorem Zu.settle (c:Zu K P f args h v h1) (nr:Vt h h2) (hv:Zky h.next v) (hk:∀ m,m<h.next->h1.get m=h2.get m):Zu K P f args h v h2:=by
 obtain⟨hn,nr⟩:=nr
 have hτ:∀ m,m<h.next->(if m<h.next then m else h1.next+m)=m:=fun m hm=>if_pos hm
 refine c.Zeh (τ:=fun m=>if m<h.next then m else h1.next+m) hτ (fun m hm=>?_) (Nat.le_of_eq hn.symm) (hv _ hτ) (fun m o ho=>?_) (fun m m' o o' ho ho' hne=>?_)
 ·show h1.next<=if m<h.next then m else h1.next+m
  rw[if_neg oM]
  omega
 ·obtain⟨lm,a|⟨s,r,q⟩⟩:=nr m o ho
  ·exact .inl ⟨a,by rw[hk m lm]; exact ho⟩
  ·refine .inr ⟨s,r,?_⟩
   show h1.get (if m<h.next then m else h1.next+m)=some (o.ren _)
   rw[hτ m lm,q _ hτ,hk m lm]
   exact ho
 ·have e1:=(nr m o ho).1
  have e2:=(nr m' o' ho').1
  show (if m<h.next then m else _)≠(if m'<h.next then m' else _)
  rw[if_pos e1,if_pos e2]
  exact hne
abbrev G8:=List (Int × List C)
def Uq (l:G8):List (W × W):=l.map fun p=>(.c (.int .i64 p.1),.g p.2)
def Je (b:Int):G8->Option (List C)
 | []=>none
 | (k,x) :: l=>bif b == k then some x else Je b l
def Dn (b:Int) (x:List C):G8->G8
 | []=>[(b,x)]
 | (k,y) :: l=>bif b == k then (b,x) :: l else (k,y) :: Dn b x l
def Zic (b:Int):G8->G8
 | []=>[]
 | (k,y) :: l=>bif b == k then l else (k,y) :: Zic b l
def gOf:Option (List C)->Option W
 | some x=>some (.g x)
 | none=>none
theorem Zir (kt:TypeId) (b:Int):∀ l:G8,Zgk K kt (.c (.int .i64 b)) (Uq l)=some (gOf (Je b l))
 | []=>rfl
 | (k,x) :: l=>by
  show (match (if IntKind.i64=IntKind.i64 then some (b == k) else none) with
   | none=>none
   | some true=>some (some (W.g x))
   | some false=>Zgk K kt (.c (.int .i64 b)) (Uq l))=_
  rw[if_pos rfl]
  show _=some (gOf (bif b == k then some x else Je b l))
  cases b == k with
  | true=>rfl
  | false=>exact Zir kt b l
theorem Zmh (kt:TypeId) (b:Int) (x:List C):∀ l:G8,Zt4 K kt (.c (.int .i64 b)) (.g x) (Uq l)=some (Uq (Dn b x l))
 | []=>rfl
 | (k,y) :: l=>by
  show (match (if IntKind.i64=IntKind.i64 then some (b == k) else none) with
   | none=>none
   | some true=>some ((W.c (.int .i64 b),W.g x) :: Uq l)
   | some false=>match Zt4 K kt (.c (.int .i64 b)) (.g x) (Uq l) with
    | none=>none
    | some l'=>some ((W.c (.int .i64 k),W.g y) :: l'))=_
  rw[if_pos rfl]
  show _=some (Uq (bif b == k then (b,x) :: l else (k,y) :: Dn b x l))
  cases b == k with
  | true=>rfl
  | false=>simp only; rw[Zmh kt b x l]; rfl
theorem Zlq (kt:TypeId) (b:Int):∀ l:G8,Zqp K kt (.c (.int .i64 b)) (Uq l)=some (Uq (Zic b l))
 | []=>rfl
 | (k,y) :: l=>by
  show (match (if IntKind.i64=IntKind.i64 then some (b == k) else none) with
   | none=>none
   | some true=>some (Uq l)
   | some false=>match Zqp K kt (.c (.int .i64 b)) (Uq l) with
    | none=>none
    | some l'=>some ((W.c (.int .i64 k),W.g y) :: l'))=_
  rw[if_pos rfl]
  show _=some (Uq (bif b == k then l else (k,y) :: Zic b l))
  cases b == k with
  | true=>rfl
  | false=>simp only; rw[Zlq kt b l]; rfl
theorem Zii (l:G8):(Uq l).length=l.length:=List.length_map ..
theorem Nv (b k:Int) (x:List C):∀ l:G8,Je b (Dn k x l)=if b=k then some x else Je b l
 | []=>by
  show (bif b == k then some x else none)=_
  by_cases e:b=k
  ·rw[if_pos e,Qm e]; rfl
  ·rw[if_neg e,D7 e]; rfl
 | (j,y) :: l=>by
  show Je b (bif k == j then (k,x) :: l else (j,y) :: Dn k x l)=if b=k then some x else (bif b == j then some y else Je b l)
  by_cases e:k=j
  ·subst e
   rw[Qm rfl,cond_true]
   show (bif b == k then some x else Je b l)=_
   by_cases e:b=k
   ·rw[if_pos e,Qm e]; rfl
   ·rw[if_neg e,D7 e]; rfl
  ·rw[D7 e,cond_false]
   show (bif b == j then some y else Je b (Dn k x l))=_
   rw[Nv b k x l]
   by_cases e2:b=j
   ·rw[Qm e2,cond_true,cond_true,if_neg oM]
   ·rw[D7 e2,cond_false,cond_false]
def Bg (l:G8):Bool:=l.all fun p=>p.2.all C.flat
theorem Bu {b:Int} {x:List C} (hx:x.all C.flat=true):∀ {l:G8},Bg l=true->Bg (Dn b x l)=true
 | [],_=>by show (x.all C.flat&&true)=true; rw[hx]; rfl
 | (k,y) :: l,h=>by
  have h':(y.all C.flat&&Bg l)=true:=h
  rw[aQ] at h'
  show Bg (bif b == k then (b,x) :: l else (k,y) :: Dn b x l)=true
  cases b == k with
  | true=>show (x.all C.flat&&Bg l)=true; rw[hx,h'.2]; rfl
  | false=>show (y.all C.flat&&Bg (Dn b x l))=true; rw[h'.1,Bu hx h'.2]; rfl
theorem Zis {b:Int}:∀ {l:G8},Bg l=true->Bg (Zic b l)=true
 | [],_=>rfl
 | (k,y) :: l,h=>by
  have h':(y.all C.flat&&Bg l)=true:=h
  rw[aQ] at h'
  show Bg (bif b == k then l else (k,y) :: Zic b l)=true
  cases b == k with
  | true=>exact h'.2
  | false=>show (y.all C.flat&&Bg (Zic b l))=true; rw[h'.1,Zis h'.2]; rfl
theorem Na {b:Nat} {l:G8} (h:Bg l=true):Zxo b (.map (Uq l)):=by
 refine⟨rfl,rfl,fun τ _=>?_⟩
 show O.map ((Uq l).map (Yd8 τ))=_
 congr 1
 rw[Uq,List.map_map]
 refine List.map_congr_left fun p hp=>?_
 show (W.c (.int .i64 p.1),(W.g p.2).ren τ)=_
 rw[W.Y7 (x:=.g p.2) (List.all_eq_true.1 h p hp)]
theorem Zw0 {b sz:Nat} {els:List (List C)} (h:∀ τ:Nat->Nat,(∀ m,m<b->τ m=m)->els.map (List.map (C.ren τ))=els):Zxo b (.row sz els false) :=
 ⟨rfl,rfl,fun τ hτ=>by show O.row sz (els.map (List.map (C.ren τ))) false=_; rw[h τ hτ]⟩
def Zaf:List (W × W)->Option G8
 | []=>some []
 | (.c (.int .i64 k),.g x) :: l=>match Zaf l with
  | some r=>some ((k,x) :: r)
  | none=>none
 | _=>none
theorem Zgj:∀ {l:List (W × W)} {r:G8},Zaf l=some r->l=Uq r
 | [],r,e=>by cases e; rfl
 | (a,x) :: l,r,e=>by
  unfold Zaf at e
  split at e
  ·rename_i heq; cases heq
  ·rename_i k x' l' heq
   cases heq
   split at e
   ·rename_i r' hr
    cases e
    rw[Zgj hr]
    rfl
   ·cases e
  ·cases e
theorem Zgi:∀ l:G8,Zaf (Uq l)=some l
 | []=>rfl
 | (k,x) :: l=>by
  show (match Zaf (Uq l) with
   | some r=>some ((k,x) :: r)
   | none=>none)=_
  rw[Zgi l]
noncomputable def getM (h:H) (n:Nat):Option G8:=match h.get n with
 | some (.map es)=>Zaf es
 | _=>none
theorem getM_some {n:Nat} {l:G8} (e:getM h n=some l):h.get n=some (.map (Uq l)):=by
 unfold getM at e
 split at e
 ·rename_i es he
  rw[he,Zgj e]
 ·cases e
theorem Lr {sz:Nat} {x:List C} (h:x.length<=sz/\sz<=x.length/\0<sz):Zn sz [x] 0 sz=some x:=by
 obtain rfl:sz=x.length:=oM
 exact Zax h.2.2
theorem Zry {sz n:Nat} {x:List C} (h:x.length<=sz/\sz<=x.length/\0<n/\n<=sz):Zn sz [x] 0 n=some (x.take n):=by
 obtain rfl:sz=x.length:=oM
 have e:Nat.beq n 0=false:=Q6 oM
 simp only[Zn,Nat.zero_div,Nat.zero_mod,List.getElem?_cons_zero,List.drop_zero,Nat.zero_add,e,cond_false]
 rw[Nat.ble_eq_true_of_le h.2.2.2]
 rfl
theorem Zud {sz off n:Nat} {x:List C} (h:off+n<=sz/\x.length<=sz/\sz<=x.length/\0<n):Zn sz [x] off n=some ((x.drop off).take n):=by
 obtain rfl:sz=x.length:=oM
 have e:Nat.beq n 0=false:=Q6 oM
 have e1:off / x.length=0:=Nat.div_eq_of_lt oM
 have e2:off % x.length=off:=Nat.mod_eq_of_lt oM
 simp only[Zn,e1,e2,List.getElem?_cons_zero,e,cond_false]
 rw[Nat.ble_eq_true_of_le oM]
 rfl
theorem Vf {sz:Nat} {l l':List C} (h:l'.length<=sz/\sz<=l'.length/\l.length<=sz/\sz<=l.length/\0<sz):Z0 sz [l] 0 l'=some [l']:=by
 obtain rfl:sz=l'.length:=oM
 exact Qi h.2.2.2.2 oM
theorem Zqy {z x:List C} {n:Nat} (h:x.length<=n/\n<=x.length/\n<=z.length):Eh z 0 n (.g x)=some (x++z.drop n):=by
 unfold Eh
 rw[Zwa,Z9e oM,Q8 oM,Bool.and_self,cond_true,List.take_zero,List.nil_append,Nat.zero_add]
theorem Zyj {x z:List C} {c:C} {n:Nat} (h:x.length<=n/\n<=x.length/\z.length<=1/\1<=z.length):Eh (x++z) n 1 (.c c)=some (x++[c]):=by
 unfold Eh
 have e1:(x++z).take n=x:=by rw[show n=x.length by omega,List.take_left']; rfl
 have e2:(x++z).drop (n+1)=[]:=List.drop_of_length_le (by rw[List.length_append]; omega)
 rw[Zv9,e1,e2,Q8 (by rw[List.length_append]; omega)]
 show some (x++[c]++[])=_
 rw[List.append_nil]
end
attribute [go_sem] Vf Lr
attribute [go_sem] Z5s Z5t Zy5 Zx2 Zir Zmh Zlq Zii Zgi getM Option.bind_some gOf
attribute [go_sem] Xh Fw Zfo entriesOf found Tm Zaq Yx
open Go.RowKit
section
variable {α:Type}
theorem Tree.Zj7 (x y:Option α):∀ (f k:Nat),k<f->Tree.upd x (Tree.path y f k) k=Tree.path x f k
 | 0,_,h=>by omega
 | f+1,k,h=>by
  rw[Tree.Zfn,Tree.Zfn]
  split
  ·rename_i hk
   rw[Tree.L6,if_pos hk]
  ·rename_i hk
   split
   ·rename_i ho
    rw[Tree.L6,if_neg hk,if_pos ho,Tree.Zj7 x y f (k / 2) oM]
   ·rename_i ho
    rw[Tree.L6,if_neg hk,if_neg ho,Tree.Zj7 x y f (k / 2 - 1) oM]
theorem Tree.Zo4 (x y:Option α):∀ (t:Tree α) (k:Nat),Tree.upd x (Tree.upd y t k) k=Tree.upd x t k
 | .nil,k=>by rw[Tree.Zo3,Tree.Zo3,Tree.Zj7 x y (k+1) k oM]
 | .node v l r,k=>by
  rw[Tree.L6,Tree.L6]
  split
  ·rename_i hk
   rw[Tree.L6,if_pos hk]
  ·rename_i hk
   split
   ·rename_i ho
    rw[Tree.L6,if_neg hk,if_pos ho,Tree.Zo4 x y l (k / 2)]
   ·rename_i ho
    rw[Tree.L6,if_neg hk,if_neg ho,Tree.Zo4 x y r (k / 2 - 1)]
end
theorem H.Zd8 (h:H) (n:Nat) (a b:O):(h.put n a).put n b=h.put n b:=by
 show (⟨Tree.upd (some b) (Tree.upd (some a) h.m n) n,h.next⟩:H)=⟨Tree.upd (some b) h.m n,h.next⟩
 rw[Tree.Zo4]
section
variable {K:Cfg} {P:Program} {Y:Kn} {f:FuncId} {args:List W} {v:V}
end
section
variable {K:Cfg} {P:Program} {n:Nat} {rd:Option Nat} {b:Code} {ds ds1:List Nat} {ts ts1:Zx} {h h1:H} {Q:X->List Nat->Zx->H->Prop} {id:Nat}
theorem Yg.Zx6 {id':Nat} (a1:Yg K P n rd b ds ts h (.exit id') ds1 ts1 h1) (hne:¬id'=id):Yg K P n rd (.block id b) ds ts h (.exit id') ds1 ts1 h1:=by
 intro D ρ w a r m hr hd ht hm hrd
 refine wpIn_block (wpIn_mono (a1 D ρ w a r m hr hd ht hm hrd) ?_)
 rintro e a1 w1 ⟨rfl,rest⟩
 show Exit.inBlock id _ (.exit id') a1 w1
 simp only[Exit.inBlock,if_neg hne]
 exact⟨rfl,rest⟩
theorem Qv (g:Goes K P n rd b ds ts h fun x ds ts h=>match x with
  | .normal=>Q .normal ds ts h
  | .ret=>Q .ret ds ts h
  | .exit id'=>if id'=id then Q .normal ds ts h else Q (.exit id') ds ts h):Goes K P n rd (.block id b) ds ts h Q:=by
 obtain⟨x,ds',ts',h',g1,g2⟩:=g
 cases x with
 | normal=>exact⟨_,_,_,_,Yg.block g1,g2⟩
 | ret=>exact⟨_,_,_,_,Yg.Zlj g1,g2⟩
 | exit id' =>
  simp only at g2
  split at g2
  ·rename_i e
   subst e
   exact⟨_,_,_,_,Yg.Zh6 g1,g2⟩
  ·rename_i e
   exact⟨_,_,_,_,Yg.Zx6 g1 e,g2⟩
end
open Go.RowKit
section
variable {K:Cfg} {P:Program} {n:Nat} {rd:Option Nat}
theorem Jo {c:Code} {ds:List Nat} {ts:Zx} {h:H} {Q:X->List Nat->Zx->H->Prop} (g:∀ h',h'=h->Goes K P n rd c ds ts h' Q):Goes K P n rd c ds ts h Q:=g h rfl
open Classical in
noncomputable def EC (E:Task->Option Out) (c:Code) (n:Nat) (rd:Option Nat) (Pr:Zx->H->Prop) (F:Zx->H->X × List Nat × Zx × H):Task->Option Out:=fun t=>match t with
 | .code c' n' rd' ds ts h=>if c'=c/\n'=n/\rd'=rd/\ds=[]/\Pr ts h then some (.at (F ts h).1 (F ts h).2.1 (F ts h).2.2.1 (F ts h).2.2.2) else E t
 | t=>E t
theorem Zpv {E:Task->Option Out} (S:Sound K P E) {c:Code} {Pr:Zx->H->Prop} {F:Zx->H->X × List Nat × Zx × H} (k:∀ ts h,Pr ts h->Yg K P n rd c [] ts h (F ts h).1 (F ts h).2.1 (F ts h).2.2.1 (F ts h).2.2.2):Sound K P (EC E c n rd Pr F):=by
 refine⟨fun f us k0 u k' he=>?_,fun c2 n2 rd2 ds2 ts2 h2 x2 ds3 ts3 h3 he=>?_,fun t o he=>?_⟩
 ·exact S.call f us k0 u k' he
 ·simp only[EC] at he
  split at he
  ·rename_i q
   obtain⟨rfl,rfl,rfl,rfl,p⟩:=q
   cases he
   exact k ts2 h2 p
  ·exact S.code c2 n2 rd2 ds2 ts2 h2 x2 ds3 ts3 h3 he
 ·cases t with
  | call f us k=>exact S.shape _ o he
  | code c2 n2 rd2 ds2 ts2 h2 =>
   simp only[EC] at he
   split at he
   ·cases he
    exact .inr ⟨_,_,_,_,_,_,_,_,_,_,rfl,rfl⟩
   ·exact S.shape _ o he
theorem Zv1 (E:Task->Option Out) (c:Code) (n:Nat) (rd:Option Nat) {Pr:Zx->H->Prop} (F:Zx->H->X × List Nat × Zx × H) {ts:Zx} {h:H} (p:Pr ts h):EC E c n rd Pr F (.code c n rd [] ts h)=some (.at (F ts h).1 (F ts h).2.1 (F ts h).2.2.1 (F ts h).2.2.2):=by
 simp [EC,p]
theorem Z5r {E:Task->Option Out} {c c2:Code} {Pr:Zx->H->Prop} {F:Zx->H->X × List Nat × Zx × H} (ne:c2≠c) (n2:Nat) (rd2:Option Nat) (ds2:List Nat) (ts2:Zx) (h2:H):EC E c n rd Pr F (.code c2 n2 rd2 ds2 ts2 h2)=E (.code c2 n2 rd2 ds2 ts2 h2):=by
 simp [EC,ne]
open Classical in
noncomputable def Xk {Q:Zx->H->X->List Nat->Zx->H->Prop} {Pr:Zx->H->Prop} {c:Code} (g:∀ ts h,Pr ts h->Goes K P n rd c [] ts h (Q ts h)) (ts:Zx) (h:H):X × List Nat × Zx × H :=
 if p:Pr ts h then ((g ts h p).ex.choose,(g ts h p).ex.choose_spec.choose,(g ts h p).ex.choose_spec.choose_spec.choose,(g ts h p).ex.choose_spec.choose_spec.choose_spec.choose) else (.normal,[],ts,h)
theorem Zd5 {Q:Zx->H->X->List Nat->Zx->H->Prop} {Pr:Zx->H->Prop} {c:Code} (g:∀ ts h,Pr ts h->Goes K P n rd c [] ts h (Q ts h)) {ts:Zx} {h:H} (p:Pr ts h) :
  Yg K P n rd c [] ts h (Xk g ts h).1 (Xk g ts h).2.1 (Xk g ts h).2.2.1 (Xk g ts h).2.2.2/\Q ts h (Xk g ts h).1 (Xk g ts h).2.1 (Xk g ts h).2.2.1 (Xk g ts h).2.2.2:=by
 have e:Xk g ts h=((g ts h p).ex.choose,(g ts h p).ex.choose_spec.choose,(g ts h p).ex.choose_spec.choose_spec.choose,(g ts h p).ex.choose_spec.choose_spec.choose_spec.choose):=by unfold Xk; rw[dif_pos p]
 rw[e]
 exact (g ts h p).ex.choose_spec.choose_spec.choose_spec.choose_spec
theorem rounds {l:Nat} {assign body:Code} (ne:assign≠body) {PA PB:Zx->H->Prop} {QA:Zx->Zx->Prop} {QB:Zx->H->H->Prop}
  (hA:∀ ts h,PA ts h->Goes K P n (some l) assign [] ts h fun x ds' ts' h'=>x=.normal/\ds'=[]/\h'=h/\QA ts ts')
  (hB:∀ ts h,PB ts h->Goes K P n (some l) body [] ts h fun x _ _ h'=>x=.normal/\QB ts h h') :
  ∃ E,Sound K P E/\∀ (us:List W) (h:H) (lts ts1:Zx) (ps:List Tmp) (d:Nat),h.get l=some (.loop lts n ps assign body .ready none d)->Oa n ps us lts=some ts1->PA ts1 h ->
   (∀ ts',QA ts1 ts'->PB ts' (h.put l (.loop lts n ps assign body .busy none d))) ->
   ∃ ts' h',QA ts1 ts'/\QB ts' (h.put l (.loop lts n ps assign body .busy none d)) h' /\
    (h'.get l=some (.loop lts n ps assign body .busy none d)->J5 E l (some us) h (some (.loop lts n ps assign body .ready none d))=some (.val (.w (.c (.bool true))) (h'.put l (.loop lts n ps assign body .ready none d)))):=by
 have SA:=Zpv (E:=E0) (K:=K) (P:=P) Za fun ts h p=>(Zd5 hA p).1
 have SB:=Zpv SA fun ts h p=>(Zd5 hB p).1
 refine⟨_,SB,fun us h lts ts1 ps d hl hz pa pb=>?_⟩
 obtain⟨kA,a1,a2,a3,a4⟩:=Zd5 hA pa
 have pB:=pb _ a4
 obtain⟨kB,b1,b2⟩:=Zd5 hB pB
 refine⟨_,_,a4,b2,fun hl2=>?_⟩
 have r:=Mj (E:=EC (EC E0 assign n (some l) PA (Xk hA)) body n (some l) PB (Xk hB)) hl hz (ds1:=[]) (ts2:=(Xk hA ts1 h).2.2.1) (h1:=h) (by
  rw[Z5r ne,Zv1 _ _ _ _ _ pa,a1,a2,a3]) hl (x:=.normal) (by
  rw[Zv1 _ _ _ _ _ pB,b1]) hl2
 rw[hl] at r
 exact r
end
open Go.RowKit
section
variable {K:Cfg} {P:Program} {Y:Kn} {f:FuncId} {args:List W} {v:V}
theorem Zu.Zwb {G:Nat} (hg:K.globs=Tree.set .nil G 0) {l:List C} {h1:H} (c0:Zu K P f args ⟨.node (some (.row 16 [l] true)) .nil .nil,1⟩ v h1) (hl:l.all C.flat=true) (ha:args.all W.flat=true) (hv:v.flat=true) (h:H) (hs:h.get 0=some (.row 16 [l] true)):Zu K P f args h v h:=by
 refine Zu.pos c0.1 (Zdp hg) fun hpos=>Zu.tidy c0.1 fun tidy=>?_
 have only:∀ n o,(⟨.node (some (.row 16 [l] true)) .nil .nil,1⟩:H).get n=some o->n=0/\o=.row 16 [l] true:=fun n o hn=>by
  have hn':(Tree.node (some (O.row 16 [l] true)) .nil .nil).get n=some o:=hn
  rw[Tree.Gv] at hn'
  split at hn'
  ·cases hn'; exact⟨oM,rfl⟩
  ·split at hn'<;>(rw[Tree.Es] at hn'; cases hn')
 have fl:∀ σ:Nat->Nat,(O.row 16 [l] true).ren σ=.row 16 [l] true:=fun σ=>by
  show O.row 16 ([l].map (List.map (C.ren σ))) true=_
  rw[List.map_cons,List.map_nil,Jm (fun a ha=>C.Y7 ha _) hl]
 have L:Lies K (fun n=>if n<1 then n else h.next+(n - 1)) ⟨.node (some (.row 16 [l] true)) .nil .nil,1⟩ h:=by
  refine⟨fun n hn=>if_neg (by have:1<=n:=hn; omega),fun n hn=>?_,fun n o ho=>?_,fun n n' o o' ho ho' hne=>?_,fun g n hgn=>?_⟩
  ·show (if n<1 then n else _)<h.next
   have:n<1:=hn
   rw[if_pos this]
   omega
  ·obtain⟨rfl,rfl⟩:=only n o ho
   exact⟨rfl,_,hs,.inl (fl _).symm⟩
  ·exact absurd ((only n o ho).1.trans (only n' o' ho').1.symm) hne
  ·rw[(Ns hg hgn).2]; rfl
 have c1:=c0.frame L (h':=⟨h.m,h.next+(h1.next - 1)⟩) ⟨rfl,fun m o ho=>.inl ⟨ho,fun n o' ho' _=>by rw[(only n o' ho').2]; rfl⟩⟩
 rw[Jm (fun a ha=>W.Y7 ha _) ha,V.Y7 hv] at c1
 exact c1.quiet hv fun m _=>rfl
theorem Znn {G:Nat} (hg:K.globs=Tree.set .nil G 0) {W:World} {cs:Array Value} {t:TypeId} {fr:Nat × Nat} (hb:W.heap[G]? = some (.cells cs t fr)) (hcs:cs.toList=steps16.map (Value.int .u32))
  {h':H} (c:Zu K P f args Su (.w (.c (.bool true))) h') {vals:List Value} (ha:Yp (Jw (Vp G)) args vals) :
  Calls P f vals.toArray W fun e W'=>e=.returned (.bool true)/\Below W.heap.size W W':=by
 have hd:Dom (Vp G) Su.next:=fun n hn=>by
  have:n≠0:=by have:1<=n:=hn; omega
  simp [Vp,this]
 have:=c.2 (Vp G) W vals none 0 (Zfs hg hb hcs) hd ha
 refine (callsIn_wide.1 (show CallsIn Fence.wide 0 P f vals.toArray W _ from this)).mono ?_
 rintro e W' ⟨ρ',val,rfl,aft,hv⟩
 have e:val=.bool true:=hv
 subst e
 refine⟨rfl,aft.fr.os,aft.fr.tape,aft.fr.output,aft.fr.size,fun k hk=>aft.fr.keep k hk ?_⟩
 rintro⟨m,o,l,ho,hro,_⟩
 obtain⟨rfl,rfl⟩:=Fp ho
 cases hro
end
noncomputable def Z3p:Option Out->Option (Int × List (List C))
 | some (.val (.tup [.c (.int .i64 p),.c s,.c (.int .i64 0)]) h)=>match s with
  | .snil=>some (p,[])
  | .slice n 0 len 1=>match h.get n with
   | some (.row 1 els false)=>bif Nat.ble 1 n&&Nat.blt n h.next&&Nat.ble 1 els.length&&Nat.beq els.length len&&els.all (fun l=>l.all C.flat) then some (p,els) else none
   | _=>none
  | _=>none
 | _=>none
theorem Zzj {o:Option Out} {p:Int} {els:List (List C)} (e:Z3p o=some (p,els)):∃ h s,o=some (.val (.tup [.c (.int .i64 p),.c s,.c (.int .i64 0)]) h)/\((els=[]/\s=.snil)\/∃ n,1<=n/\n<h.next/\s=.slice n 0 els.length 1/\h.get n=some (.row 1 els false)/\els.all (fun l=>l.all C.flat)=true/\1<=els.length):=by
 unfold Z3p at e
 split at e
 ·rename_i p' s h
  split at e
  ·cases e; exact⟨h,.snil,rfl,.inl ⟨rfl,rfl⟩⟩
  ·rename_i n len
   split at e
   ·rename_i els' ho
    cases hb:(Nat.ble 1 n&&Nat.blt n h.next&&Nat.ble 1 els'.length&&Nat.beq els'.length len&&els'.all (fun l=>l.all C.flat)) with
    | false=>rw[hb] at e; cases e
    | true =>
     rw[hb] at e
     cases e
     simp only[aQ] at hb
     obtain⟨⟨⟨⟨b1,b2⟩,b3⟩,b4⟩,b5⟩:=hb
     obtain rfl:=bQ b4
     exact⟨h,_,rfl,.inr ⟨n,lQ b1,by simpa [Nat.blt_eq] using b2,rfl,ho,b5,lQ b3⟩⟩
   ·cases e
  ·cases e
 ·cases e
section
variable {K:Cfg} {P:Program} {Y:Kn} {f:FuncId} {args:List W}
theorem Zu.Z6i (F:Fits K P) (Hh:Hearts K P) (hY:Zcj K P Y) {G:Nat} (hg:K.globs=Tree.set .nil G 0) {n:Nat} {p:Int} {els:List (List C)} (e:Z3p (evX K Y n (.call f args ⟨.nil,1⟩))=some (p,els)) (ha:args.all W.flat=true) (h:H) (hpos:0<h.next) :
  ∃ h' s,Zu K P f args h (.tup [.c (.int .i64 p),.c s,.c (.int .i64 0)]) h'/\h.next<=h'.next/\(∀ m,m<h.next->h'.get m=h.get m)/\((els=[]/\s=.snil)\/∃ q,h.next<=q/\q<h'.next/\s=.slice q 0 els.length 1/\h'.get q=some (.row 1 els false)/\1<=els.length):=by
 obtain⟨h1,s,e1,hs⟩:=Zzj e
 have c0:Zu K P f args ⟨.nil,1⟩ (.tup [.c (.int .i64 p),.c s,.c (.int .i64 0)]) h1:=(Er F Hh hY n).call f args _ _ _ e1
 have none0:∀ n o,¬ (⟨.nil,1⟩:H).get n=some o:=fun n o hn=>by cases hn
 have L:Lies K (fun n=>if n<1 then n else h.next+(n - 1)) ⟨.nil,1⟩ h:=by
  refine⟨fun n hn=>if_neg (by have:1<=n:=hn; omega),fun n hn=>?_,fun n o ho=>(none0 n o ho).elim,fun n n' o o' ho=>(none0 n o ho).elim,fun g n hgn=>?_⟩
  ·show (if n<1 then n else _)<h.next
   have:n<1:=hn
   rw[if_pos this]
   omega
  ·rw[(Ns hg hgn).2]; rfl
 rcases hs with ⟨rfl,rfl⟩|⟨k,k1,k2,rfl,ho,hfl,el⟩
 ·have c1:=c0.frame L (h':=⟨h.m,h.next+(h1.next - 1)⟩) ⟨rfl,fun m o ho=>.inl ⟨ho,fun n o' ho'=>(none0 n o' ho').elim⟩⟩
  rw[Jm (fun a ha=>W.Y7 ha _) ha] at c1
  exact⟨⟨h.m,h.next+(h1.next - 1)⟩,.snil,c1,Nat.le_add_right _ _,fun m _=>rfl,.inl ⟨rfl,rfl⟩⟩
 ·have fl:∀ σ:Nat->Nat,(O.row 1 els false).ren σ=.row 1 els false:=fun σ=>by
   show O.row 1 (els.map (List.map (C.ren σ))) false=_
   rw[Jm (fun l hl=>Jm (fun a ha=>C.Y7 ha _) hl) hfl]
  have sk:(if k<1 then k else h.next+(k - 1))=h.next+(k - 1):=if_neg oM
  have c1:=c0.frame L (h':=(⟨h.m,h.next+(h1.next - 1)⟩:H).put (h.next+(k - 1)) (.row 1 els false)) ⟨rfl,fun m o ho'=>by
   rw[H.get_put] at ho'
   split at ho'
   ·rename_i hm
    cases ho'
    exact .inr ⟨k,_,ho,rfl,rfl,by show (if k<1 then k else h.next+(k - 1))=m; rw[sk,hm],(fl _).symm⟩
   ·exact .inl ⟨ho',fun n o' ho2=>(none0 n o' ho2).elim⟩⟩
  rw[Jm (fun a ha=>W.Y7 ha _) ha] at c1
  refine⟨(⟨h.m,h.next+(h1.next - 1)⟩:H).put (h.next+(k - 1)) (.row 1 els false),.slice (h.next+(k - 1)) 0 els.length 1,?_,Nat.le_add_right h.next _,fun m hm=>by rw[Ze oM]; rfl,.inr ⟨h.next+(k - 1),Nat.le_add_right _ _,by rw[H.Zd]; show h.next+(k - 1)<h.next+(h1.next - 1); omega,rfl,Zy ..,el⟩⟩
  have ev:(V.tup [.c (.int .i64 p),.c (.slice k 0 els.length 1),.c (.int .i64 0)]).ren (fun n=>if n<1 then n else h.next+(n - 1))=.tup [.c (.int .i64 p),.c (.slice (h.next+(k - 1)) 0 els.length 1),.c (.int .i64 0)]:=by
   show V.tup [.c (.int .i64 p),.c (.slice (if k<1 then k else h.next+(k - 1)) 0 els.length 1),.c (.int .i64 0)]=_
   rw[sk]
  rw[ev] at c1
  exact c1
end
open Go.RowKit
section
variable {K:Cfg} {P:Program}
theorem Zu.Zw1 {f:FuncId} {args:List W} {h:H} {v:V} (hc:Ou P f) (q:∀ ρ w vals,Rep K ρ h w->Yp (Jw ρ) args vals->∃ val,O8 ρ v val/\Calls P f vals.toArray w fun e w'=>e=.returned val/\w'=w):Zu K P f args h v h:=by
 refine⟨hc,fun ρ w vals r m hr hd ha=>?_⟩
 obtain⟨val,hv,k⟩:=q ρ w vals hr ha
 refine (Si k).mono ?_
 rintro e w' ⟨rfl,rfl⟩
 exact⟨ρ,_,rfl,Aft.refl hr,hv⟩
theorem Zu.Z21 {f:FuncId} {args:List W} {h:H} {v:V} (hc:Ou P f) (q:∀ ρ w vals,Rep K ρ h w->Yp (Jw ρ) args vals->∃ val,O8 ρ v val/\Calls P f vals.toArray w fun e w'=>e=.returned val/\Below w.heap.size w w'):Zu K P f args h v h:=by
 refine⟨hc,fun ρ w vals r m hr hd ha=>?_⟩
 obtain⟨val,hv,k⟩:=q ρ w vals hr ha
 refine (Si k).mono ?_
 rintro e w' ⟨rfl,b⟩
 refine⟨ρ,_,rfl,⟨Ren.le.refl _,New.refl _ _ _,⟨hr.glob,fun n o ho=>?_,hr.inj⟩,⟨b.os,b.tape,b.output,b.size,fun k hk _=>b.block k hk,fun k hk=>.inr hk,fun n o ho _=>ho⟩,Nat.le_refl _⟩,hv⟩
 obtain⟨l,hl,hor⟩:=hr.obj n o ho
 exact⟨l,hl,hor.congr (b.block _ hor.lt)⟩
end
theorem Zja (a x:Int):∀ l:List Int,x∈Zdu a l ↔ x=a\/x∈l
 | []=>by simp [Zdu]
 | b :: l=>by
  unfold Zdu
  split
  ·simp
  ·rw[List.mem_cons,Zja a x l,List.mem_cons]
   constructor
   ·rintro (h|h|h)
    ·exact .inr (.inl h)
    ·exact .inl h
    ·exact .inr (.inr h)
   ·rintro (h|h|h)
    ·exact .inr (.inl h)
    ·exact .inl h
    ·exact .inr (.inr h)
theorem Zrc (a:Int):∀ l:List Int,(Zdu a l).length=l.length+1
 | []=>rfl
 | b :: l=>by
  unfold Zdu
  split
  ·rfl
  ·rw[List.length_cons,Zrc a l]; rfl
def Ty:G8->List Int
 | []=>[]
 | (k,_) :: l=>Zdu k (Ty l)
theorem Qp:∀ {l:G8},(∀ p∈l,Rt p.1=true)->Ep (Uq l)=some (Ty l)
 | [],_=>rfl
 | (k,x) :: l,h=>by
  show (bif Rt k then (match Ep (Uq l) with
   | none=>none
   | some r=>some (Zdu k r)) else none)=_
  rw[h (k,x) (by simp),Qp (fun p hp=>h p (by simp [hp]))]
  rfl
theorem Zbk:∀ l:G8,(Ty l).length=l.length
 | []=>rfl
 | (k,_) :: l=>by rw[Ty,Zrc,Zbk l]; rfl
theorem Zma {k:Int}:∀ {l:G8},k∈Ty l ↔ (Je k l).isSome=true
 | []=>by simp [Ty,Je]
 | (j,y) :: l=>by
  rw[Ty,Zja,Zma (l:=l)]
  show _ ↔ (bif k == j then some y else Je k l).isSome=true
  by_cases e:k=j
  ·rw[Qm e]; simp [e]
  ·rw[D7 e]; simp [e]
open Go.RowKit
def Zhd (o:Oper):Option Operand:=match o.op,o.guard,o.dst with
 | .defer c,none,none=>match c.callee,c.args.toList with
  | .value f,[]=>some f
  | _,_=>none
 | _,_,_=>none
def Zfv:List Oper->Option (List Oper × Operand)
 | []=>none
 | [o]=>match Zhd o with
  | some f=>some ([],f)
  | none=>none
 | o :: l=>match Zfv l with
  | some (p,f)=>some (o :: p,f)
  | none=>none
def Zuj:Code->Option (Array Oper × List Oper × Operand)
 | .region _ ops false=>match Zfv ops.toList with
  | some (p,f)=>some (ops,p,f)
  | none=>none
 | _=>none
def toEnd:X->Bool
 | .normal=>true
 | .ret=>true
 | .exit _=>false
noncomputable def Z3q (K:Cfg) (fn:Func) (ts:Zx):Option H->Option (V × H)
 | some h=>match Jb K h ts fn.results.toList with
  | some vs=>some (Ue vs,h)
  | none=>none
 | none=>none
section
variable {K:Cfg} {P:Program} {E:Task->Option Out} {ρ:Ren} {h h':H} {w:World} {ts:Zx} {n:Nat}
theorem Zmp:∀ {l p:List Oper} {f:Operand},Zfv l=some (p,f)->∃ o,l=p++[o]/\Zhd o=some f
 | [],p,f,e=>by simp [Zfv] at e
 | [o],p,f,e=>by
  simp only[Zfv] at e
  split at e
  ·rename_i g hg
   cases e
   exact⟨o,rfl,hg⟩
  ·cases e
 | o :: o2 :: l,p,f,e=>by
  simp only[Zfv] at e
  split at e
  ·rename_i q g hg
   cases e
   obtain⟨o',h1,h2⟩:=Zmp hg
   exact⟨o',by rw[h1]; rfl,h2⟩
  ·cases e
theorem Zs9 {o:Oper} {f:Operand} (e:Zhd o=some f):∃ tys,o.op=.defer ⟨.value f,#[],tys⟩/\o.guard=none/\o.dst=none:=by
 unfold Zhd at e
 split at e
 ·rename_i c h1 h2 h3
  split at e
  ·rename_i g h4 h5
   cases e
   obtain⟨callee,args,tys⟩:=c
   simp only at h4 h5
   subst h4
   have:args = #[]:=by apply Array.ext'; exact h5
   subst this
   exact⟨tys,h1,h2,h3⟩
  ·cases e
 ·cases e
theorem Zdy {fn:Func} {tmps:Array Value} {R:Ending->World->Prop} {r:Option Nat} {m:Nat} {D:List Deferred}:∀ (ds:List Nat) (dl:List Deferred) (h:H) (w:World),Ji ds h=some h'->Marks ρ D ds dl->Rep K ρ h w ->
  (∀ w',Aft K ρ h w ρ h' w'->LeavesInM (Wd r) m P fn tmps R D .returning w')->LeavesInM (Wd r) m P fn tmps R dl .returning w
 | [],dl,h,w,ht,hm,hr,hR=>by
  obtain⟨dl',e1,q⟩:=hm
  cases dl' with
  | cons _ _=>exact q.elim
  | nil =>
   simp [Ji] at ht
   subst ht
   rw[e1]
   exact hR w (Aft.refl hr)
 | d :: ds,dl,h,w,ht,hm,hr,hR=>by
  obtain⟨dl',e1,q⟩:=hm
  cases dl' with
  | nil=>exact q.elim
  | cons df dl' =>
   obtain⟨⟨l,hl,rfl⟩,q'⟩:=q
   have hm':Marks ρ D ds (dl'++D):=⟨dl',rfl,q'⟩
   rw[e1]
   simp only[Ji] at ht
   split at ht
   ·rename_i ho
    obtain⟨l',hl',hor⟩:=hr.obj d _ ho
    rw[hl] at hl'
    cases hl'
    have hlt:=hor.lt
    have hb:w.heap[l.blk]? = some (.deferred (some [])):=hor
    let w1:World:={ w with heap:=w.heap.setIfInBounds l.blk (.deferred none) }
    have hrun:(Instr.takeDeferred l.blk).run P w=.ok [] w1:=by
     simp [Instr.takeDeferred,getObj,setObj,Sem.run,hb,w1]
    have haft:Aft K ρ h w ρ (h.del d) w1:=by
     have hsub:∀ m x,(h.del d).get m=some x->m≠d/\h.get m=some x:=fun m x hx=>by
      rw[H.D5] at hx
      split at hx
      ·cases hx
      ·rename_i e; exact⟨e,hx⟩
     refine⟨Ren.le.refl _,New.refl _ _ _,⟨hr.glob,fun m x hx=>?_,fun m m' x x' lm lm' hne hx hx'=>hr.inj m m' x x' lm lm' hne (hsub m x hx).2 (hsub m' x' hx').2⟩,⟨rfl,rfl,rfl,by simp [w1],fun k hk hn=>?_,fun k hk=>?_,fun m x hx _=>(hsub m x hx).2⟩,Nat.le_refl _⟩
     ·obtain⟨e,hx'⟩:=hsub m x hx
      obtain⟨lm,hlm,hrm⟩:=hr.obj m x hx'
      refine⟨lm,hlm,hrm.congr ?_⟩
      have hne:=hr.inj m d x _ lm l e hx' ho hlm hl (.inr rfl)
      simp [w1,Ne.symm hne]
     ·have hne:k≠l.blk:=fun e=>hn ⟨d,_,l,ho,rfl,hl,e.symm⟩
      simp [w1,Ne.symm hne]
     ·obtain⟨m,x,lm,hx,r⟩:=hk
      exact .inr ⟨m,x,lm,(hsub m x hx).2,r⟩
    refine⟨by simp,.inl ⟨l.blk,w1,rfl,hrun,?_⟩⟩
    exact Zdy ds (dl'++D) (h.del d) w1 ht hm' haft.rep (fun w' ha=>hR w' (haft.trans ha))
   ·cases ht
theorem Zjk (F:Fits K P) (S:Sound K P E) {ops:Array Oper} {Q:Exit->Act->World->Prop} {r:Option Nat} {m:Nat} {rest:List Oper} {ts':Zx}:∀ (l:List Oper) (ts:Zx) (h:H) (ρ:Ren) (w:World) (a:Act),Fu K E ops.toList n l ts h=some (ts',h')->Rep K ρ h w->Dom ρ h.next->Gx ρ n ts a.tmps ->
  (∀ ρ' a' w',Aft K ρ h w ρ' h' w'->Gx ρ' n ts' a'.tmps->a'.defers=a.defers->wpListIn (Wd r) m P ops Q rest a' w')->wpListIn (Wd r) m P ops Q (l++rest) a w
 | [],ts,h,ρ,w,a,hv,hr,hd,ht,hq=>by
  rw[Ze9] at hv
  cases hv
  exact hq ρ a w (Aft.refl hr) ht rfl
 | o :: l,ts,h,ρ,w,a,hv,hr,hd,ht,hq=>by
  rw[Wo] at hv
  split at hv
  ·rename_i ts1 h1 h1e
   rw[List.cons_append]
   refine wpListIn_step (fun Kn hK=>?_)
   refine Zmc F S hr hd ht h1e (fun ρ1 a1 w1 aft1 tr1 df1=>hK _ _ ?_)
   refine Zjk F S l ts1 h1 ρ1 w1 a1 hv aft1.rep (aft1.dom hd) tr1 (fun ρ2 a2 w2 aft2 tr2 df2=>?_)
   exact hq ρ2 a2 w2 (aft1.trans aft2) tr2 (df2.trans df1)
  ·cases hv
theorem Zue {fn:Func} {ts:Zx} {oh:Option H} {v:V} (e:Z3q K fn ts oh=some (v,h')):∃ vs,oh=some h'/\Jb K h' ts fn.results.toList=some vs/\v=Ue vs:=by
 unfold Z3q at e
 split at e
 ·split at e
  ·rename_i vs hvs
   cases e
   exact⟨vs,rfl,hvs,rfl⟩
  ·cases e
 ·cases e
end
open Go.RowKit
section
variable {K:Cfg} {P:Program} {ρ:Ren} {h h':H} {w:World}
def Zht (K:Cfg) (P:Program) (g:FuncId) (args:List W) (h h':H):Prop:=∃ fg body x ts3 vs,K.funcs.get g=some fg/\fg.body=some body/\Nat.ble args.length fg.ntmps=true/\Yg K P fg.ntmps none body [] (Ug 0 args .nil) h x [] ts3 h'/\toEnd x=true/\Jb K h' ts3 fg.results.toList=some vs
theorem Zqj (F:Fits K P) {fn:Func} {tmps:Array Value} {R:Ending->World->Prop} {m:Nat} {g:FuncId} {first caps:List (Option (Nat × Nat))} {fa ca:Array Value} (hr:Rep K ρ h w) (hd:Dom ρ h.next) (h1:Yp (Rn ρ) first fa.toList) (h2:Yp (Rn ρ) caps ca.toList)
  (he:Zht K P g (Ov [] first caps) h h') (hR:∀ ρ' w',Aft K ρ h w ρ' h' w'->∃ v,(results fn tmps).run P w'=.ok v w'/\R (.returned v) w') :
  LeavesInM (Wd none) m P fn tmps R [{ target:=.fn (.func g) ca,args:=fa }] .returning w:=by
 obtain⟨fg,body,x,ts3,vs,hfg,hbody,hb,hE,hx,hvs⟩:=he
 have hcal:Ou P g:=⟨fg,F.funcs g fg hfg,by rw[hbody]; rfl,F.names g fg hfg⟩
 have hall:Yp (Jw ρ) (Ov [] first caps) (fa.toList++[]++ca.toList):=((Xm h1).append (show Yp (Jw ρ) [] [] from trivial)).append (Xm h2)
 have harr:(fa.toList++[]++ca.toList).toArray=fa++ca:=by
  apply Array.ext'
  simp
 have hcode:=hE [] ρ w { tmps:=(fa.toList++[]++ca.toList).toArray++Array.replicate (fg.ntmps - (fa.toList++[]++ca.toList).toArray.size) Go.undef,defers:=[] } none (m - 1) hr hd (Zhx hall (U2 hb)) (Marks.nil _ _) trivial
 rw[harr] at hcode
 refine⟨by simp,.inr ⟨fun hh=>by simp [Wd,Fence.wide] at hh,.func g,ca,g,fa++ca,rfl,?_,fun _ _=>trivial,?_⟩⟩
 ·have:=Uu hcal (fa++ca) w
  simpa [invoke] using this
 ·have hD:=callsDIn_of_wp (R:=fun e w'=>(∃ v,e=.returned v)/\∃ ρ',Aft K ρ h w ρ' h' w') (u:=.returning) (F.funcs g fg hfg) hbody trivial (wpIn_mono hcode (by
   rintro e a w1 ⟨rfl,ρ1,aft1,tr1,dl,e1,q⟩
   obtain⟨val,hv1,_⟩:=Zay F aft1.rep tr1 hvs
   have hdl:a.defers=[]:=by
    cases dl with
    | nil=>exact e1
    | cons _ _=>exact q.elim
   cases x with
   | normal=>exact⟨hdl,val,hv1,⟨_,rfl⟩,ρ1,aft1⟩
   | ret=>exact⟨hdl,val,hv1,⟨_,rfl⟩,ρ1,aft1⟩
   | exit id=>cases hx))
  refine hD.mono ?_
  rintro e u' w1 ⟨rfl,⟨v,rfl⟩,ρ1,aft1⟩
  exact hR ρ1 w1 aft1
inductive SpineR (K:Cfg) (P:Program) (fn:Func):Code->Zx->H->V->H->Prop where
 | ret {a b:Code} {ts ts1:Zx} {h h1 h':H} {ds:List Nat} {v:V}:Yg K P fn.ntmps none a [] ts h .ret ds ts1 h1->Z3q K fn ts1 (Ji ds h1)=some (v,h')->SpineR K P fn (.seq a b) ts h v h'
 | go {a b:Code} {ts ts1:Zx} {h h1 h':H} {v:V}:Yg K P fn.ntmps none a [] ts h .normal [] ts1 h1->SpineR K P fn b ts1 h1 v h'->SpineR K P fn (.seq a b) ts h v h'
 | push {a b:Code} {ops:Array Oper} {p:List Oper} {f:Operand} {E:Task->Option Out} {g:FuncId} {first caps:List (Option (Nat × Nat))} {x:X} {ds:List Nat} {ts ts1 ts2:Zx} {h h1 h2 h3 h':H} {vs:List W}:Zuj a=some (ops,p,f)->Sound K P E->Fu K E ops.toList fn.ntmps p ts h=some (ts1,h1)->Z4 K ts1 f=some (.fn g first caps)->Yg K P fn.ntmps none b [] ts1 h1 x ds ts2 h2->toEnd x=true->Ji ds h2=some h3->Zht K P g (Ov [] first caps) h3 h'->Jb K h' ts2 fn.results.toList=some vs->SpineR K P fn (.seq a b) ts h (Ue vs) h'
theorem Zzo (F:Fits K P) {fn:Func} {ρ0:Ren} {h0:H} {w0:World} {v:V} {m:Nat} (hd0:Dom ρ0 h0.next) {c:Code} {ts:Zx} {h:H} (s:SpineR K P fn c ts h v h'):∀ (ρ:Ren) (w:World) (act:Act),Aft K ρ0 h0 w0 ρ h w->Gx ρ fn.ntmps ts act.tmps->act.defers=[] ->
  c.wpIn (Wd none) m P (bodyPostM (Wd none) m P fn (R9 K ρ0 h0 w0 v h')) act w:=by
 induction s with
 | ret hE hv =>
  rename_i a b ts ts1 h h1 h' ds v
  intro ρ w act aft0 tr hdf
  have hd:=aft0.dom hd0
  obtain⟨vs,htm,hvs,rfl⟩:=Zue hv
  refine wpIn_seq (wpIn_mono (hE [] ρ w act none m aft0.rep hd tr (by rw[hdf]; exact Marks.nil _ _) trivial) ?_)
  rintro e a1 w1 ⟨rfl,ρ1,aft1,tr1,mk1⟩
  have hl2:LeavesInM (Wd none) m P fn a1.tmps (R9 K ρ0 h0 w0 (Ue vs) h') a1.defers .returning w1:=Zao F ds a1.defers h1 ρ1 w1 htm mk1 aft1.rep tr1 hvs (fun w' val aft2 hcon=>⟨ρ1,val,rfl,(aft0.trans aft1).trans aft2,hcon⟩)
  exact hl2
 | go hE hs ih =>
  rename_i a b ts ts1 h h1 h' v
  intro ρ w act aft0 tr hdf
  have hd:=aft0.dom hd0
  refine wpIn_seq (wpIn_mono (hE [] ρ w act none m aft0.rep hd tr (by rw[hdf]; exact Marks.nil _ _) trivial) ?_)
  rintro e a1 w1 ⟨rfl,ρ1,aft1,tr1,dl,e1,q⟩
  show b.wpIn (Wd none) m P _ a1 w1
  refine ih ρ1 w1 a1 (aft0.trans aft1) tr1 ?_
  cases dl with
  | nil=>exact e1
  | cons _ _=>exact q.elim
 | push hsp S hE1 hcl hE2 hx htm hcl2 hvs =>
  rename_i a b ops p f E g first caps x ds ts ts1 ts2 h h1 h2 h3 h' vs
  intro ρ w act aft0 tr hdf
  have hd:=aft0.dom hd0
  unfold Zuj at hsp
  split at hsp
  ·rename_i id ops0
   split at hsp
   ·rename_i p0 f0 hsd
    cases hsp
    obtain⟨o,hl,hdo⟩:=Zmp hsd
    obtain⟨tys,hop,hgd,hdst⟩:=Zs9 hdo
    refine wpIn_seq (wpIn_region_list ?_)
    rw[hl]
    refine Zjk F S p ts h ρ w act hE1 aft0.rep hd tr (fun ρ1 a1 w1 aft1 tr1 df1=>?_)
    have hd1:=aft1.dom hd
    obtain⟨fa,ca,hfv,q1,q2⟩:=(Rc aft1.rep tr1).c hcl
    refine wpListIn_step (fun Kn hK=>?_)
    have hw:Region.wanted o (yielded ops a1.tmps)=true:=by simp [Region.wanted,hgd]
    rw[hw,if_pos rfl]
    refine⟨fun _ _=>trivial,?_⟩
    have hrun:(o.semAt (Wd none).round a1.eval).run P w1=.ok (.defer { target:=.fn (.func g) ca,args:=fa }) w1:=by
     show (execOp a1.eval o).run P w1=_
     simp [execOp,hop,resolve,hfv,Deferred.ofValue]
    rw[hrun,Oper.uponIn_defer,hdst]
    refine hK _ _ (wpListIn_nil ?_)
    have e1:({ a1 with defers:={ target:=.fn (.func g) ca,args:=fa } :: a1.defers }:Act).put none Go.undef = { a1 with defers:=[{ target:=.fn (.func g) ca,args:=fa }] }:=by
     rw[df1,hdf]
     rfl
    rw[e1]
    show b.wpIn (Wd none) m P _ _ w1
    refine wpIn_mono (hE2 [{ target:=.fn (.func g) ca,args:=fa }] ρ1 w1 { a1 with defers:=[{ target:=.fn (.func g) ca,args:=fa }] } none m aft1.rep hd1 tr1 (Marks.nil _ _) trivial) ?_
    rintro e a3 w3 ⟨rfl,ρ2,aft2,tr2,mk2⟩
    have hl2:LeavesInM (Wd none) m P fn a3.tmps (R9 K ρ0 h0 w0 (Ue vs) h') a3.defers .returning w3:=by
     refine Zdy ds a3.defers h2 w3 htm mk2 aft2.rep (fun w4 aft4=>?_)
     have aft24:=aft2.trans aft4
     refine Zqj F aft4.rep (aft24.dom hd1) (q1.mono (fun _ _=>Rn.mono aft24.le)) (q2.mono (fun _ _=>Rn.mono aft24.le)) hcl2 (fun ρ5 w5 aft5=>?_)
     obtain⟨val,hr1,hr2⟩:=Zay F aft5.rep (tr2.mono (aft4.trans aft5).le) hvs
     exact⟨val,hr1,ρ5,val,rfl,((aft0.trans aft1).trans aft24).trans aft5,hr2⟩
    cases x with
    | normal=>exact hl2
    | ret=>exact hl2
    | exit id=>cases hx
   ·cases hsp
  ·cases hsp
theorem Zu.spine (F:Fits K P) {f:FuncId} {fn:Func} {body:Code} {args:List W} {v:V} (s:SpineR K P fn body (Ug 0 args .nil) h v h') (hf:K.funcs.get f=some fn) (hbody:fn.body=some body) (hb:Nat.ble args.length fn.ntmps=true):Zu K P f args h v h':=by
 refine⟨⟨fn,F.funcs f fn hf,by rw[hbody]; rfl,F.names f fn hf⟩,fun ρ w vals r m hr hd hall=>?_⟩
 have:CallsIn (Wd none) m P f vals.toArray w (R9 K ρ h w v h') :=
  callsIn_of_wp_marks (F.funcs f fn hf) hbody trivial (Zzo F hd s ρ w { tmps:=vals.toArray++Array.replicate (fn.ntmps - vals.toArray.size) Go.undef,defers:=[] } (Aft.refl hr) (Zhx hall (U2 hb)) rfl)
 exact this
theorem Zu.Ybw (F:Fits K P) {f:FuncId} {fn:Func} {body:Code} {args:List W} {R:V->H->Prop} (s:∃ v h',SpineR K P fn body (Ug 0 args .nil) h v h'/\R v h') (hf:K.funcs.get f=some fn) (hbody:fn.body=some body) (hb:Nat.ble args.length fn.ntmps=true):∃ v h',Zu K P f args h v h'/\R v h':=by
 obtain⟨v,h',s,r⟩:=s
 exact⟨v,h',Zu.spine F s hf hbody hb,r⟩
theorem SpineR.goE {fn:Func} {a b:Code} {ts:Zx} {R:V->H->Prop} (g:Goes K P fn.ntmps none a [] ts h fun x ds' ts1 h1=>x=.normal/\ds'=[]/\∃ v h',SpineR K P fn b ts1 h1 v h'/\R v h'):∃ v h',SpineR K P fn (.seq a b) ts h v h'/\R v h':=by
 obtain⟨x,ds',ts1,h1,c,rfl,rfl,v,h',s,r⟩:=g
 exact⟨v,h',.go c s,r⟩
theorem SpineR.Yd0 {fn:Func} {a b:Code} {ts ts1:Zx} {h1:H} {R:V->H->Prop} {ops:Array Oper} {p:List Oper} {f:Operand} {E:Task->Option Out} {g:FuncId} {first caps:List (Option (Nat × Nat))} (S:Sound K P E) (hs:Zuj a=some (ops,p,f)) (he:Fu K E ops.toList fn.ntmps p ts h=some (ts1,h1)) (hc:Z4 K ts1 f=some (.fn g first caps))
  (q:Goes K P fn.ntmps none b [] ts1 h1 fun x ds' ts2 h2=>toEnd x=true/\∃ h3,Ji ds' h2=some h3/\∃ h',Zht K P g (Ov [] first caps) h3 h'/\∃ vs,Jb K h' ts2 fn.results.toList=some vs/\R (Ue vs) h'):∃ v h',SpineR K P fn (.seq a b) ts h v h'/\R v h':=by
 obtain⟨x,ds',ts2,h2,c,hx,h3,ht,h',cl,vs,hv,r⟩:=q
 exact⟨_,h',.push hs S he hc c hx ht cl hv,r⟩
theorem Zht.of {g:FuncId} {fg:Func} {body:Code} {args:List W} {h':H} (hf:K.funcs.get g=some fg) (hb:fg.body=some body) (hn:Nat.ble args.length fg.ntmps=true) (q:Goes K P fg.ntmps none body [] (Ug 0 args .nil) h fun x ds' ts3 h3=>ds'=[]/\h3=h'/\toEnd x=true/\∃ vs,Jb K h3 ts3 fg.results.toList=some vs):Zht K P g args h h':=by
 obtain⟨x,ds',ts3,h3,c,rfl,rfl,hx,vs,hv⟩:=q
 exact⟨fg,body,x,ts3,vs,hf,hb,hn,c,hx,hv⟩
end
noncomputable def Ybn (sz:Nat):Option Out->Option (List (List C))
 | some (.val (.w (.c (.slice n 0 len sz'))) h)=>match h.get n with
  | some (.row sz'' els false)=>bif Nat.beq sz sz'&&Nat.beq sz sz''&&Nat.ble 1 n&&Nat.blt n h.next&&Nat.beq els.length len&&els.all (fun l=>l.all C.flat) then some els else none
  | _=>none
 | _=>none
theorem Zzi {o:Option Out} {sz:Nat} {els:List (List C)} (e:Ybn sz o=some els):∃ h n,o=some (.val (.w (.c (.slice n 0 els.length sz))) h)/\1<=n/\n<h.next/\h.get n=some (.row sz els false)/\els.all (fun l=>l.all C.flat)=true:=by
 unfold Ybn at e
 split at e
 ·rename_i n len sz' h
  split at e
  ·rename_i sz'' els' ho
   cases hb:(Nat.beq sz sz'&&Nat.beq sz sz''&&Nat.ble 1 n&&Nat.blt n h.next&&Nat.beq els'.length len&&els'.all (fun l=>l.all C.flat)) with
   | false=>rw[hb] at e; cases e
   | true =>
    rw[hb] at e
    cases e
    simp only[aQ] at hb
    obtain⟨⟨⟨⟨⟨b0,b1⟩,b2⟩,b3⟩,b4⟩,b5⟩:=hb
    obtain rfl:=bQ b0
    obtain rfl:=bQ b1
    obtain rfl:=bQ b4
    exact⟨h,n,rfl,lQ b2,by simpa [Nat.blt_eq] using b3,ho,b5⟩
  ·cases e
 ·cases e
section
variable {K:Cfg} {P:Program} {Y:Kn} {f:FuncId} {args:List W}
theorem Zu.Z6h (F:Fits K P) (Hh:Hearts K P) (hY:Zcj K P Y) {G:Nat} (hg:K.globs=Tree.set .nil G 0) {n sz:Nat} {els:List (List C)} (e:Ybn sz (evX K Y n (.call f args ⟨.nil,1⟩))=some els) (ha:args.all W.flat=true) (h:H) :
  Zu K P f args h (.w (.c (.slice h.next 0 els.length sz))) (h.new (.row sz els false)):=by
 obtain⟨h1,k,e1,k1,k2,ho,hfl⟩:=Zzi e
 have c0:Zu K P f args ⟨.nil,1⟩ (.w (.c (.slice k 0 els.length sz))) h1:=(Er F Hh hY n).call f args _ _ _ e1
 refine Zu.pos c0.1 (Zdp hg) fun hpos=>?_
 have none0:∀ n o,¬ (⟨.nil,1⟩:H).get n=some o:=fun n o hn=>by cases hn
 have L:Lies K (fun n=>if n<1 then n else h.next+(n - 1)) ⟨.nil,1⟩ h:=by
  refine⟨fun n hn=>if_neg (by have:1<=n:=hn; omega),fun n hn=>?_,fun n o ho=>(none0 n o ho).elim,fun n n' o o' ho=>(none0 n o ho).elim,fun g n hgn=>?_⟩
  ·show (if n<1 then n else _)<h.next
   have:n<1:=hn
   rw[if_pos this]
   omega
  ·rw[(Ns hg hgn).2]; rfl
 have fl:∀ σ:Nat->Nat,(O.row sz els false).ren σ=.row sz els false:=fun σ=>by
  show O.row sz (els.map (List.map (C.ren σ))) false=_
  rw[Jm (fun l hl=>Jm (fun a ha=>C.Y7 ha _) hl) hfl]
 have sk:(if k<1 then k else h.next+(k - 1))=h.next+(k - 1):=if_neg oM
 have c1:=c0.frame L (h':=(⟨h.m,h.next+(h1.next - 1)⟩:H).put (h.next+(k - 1)) (.row sz els false)) ⟨rfl,fun m o ho'=>by
  rw[H.get_put] at ho'
  split at ho'
  ·rename_i hm
   cases ho'
   exact .inr ⟨k,_,ho,rfl,rfl,by show (if k<1 then k else h.next+(k - 1))=m; rw[sk,hm],(fl _).symm⟩
  ·exact .inl ⟨ho',fun n o' ho2=>(none0 n o' ho2).elim⟩⟩
 rw[Jm (fun a ha=>W.Y7 ha _) ha] at c1
 have ev:(V.w (.c (.slice k 0 els.length sz))).ren (fun n=>if n<1 then n else h.next+(n - 1))=.w (.c (.slice (h.next+(k - 1)) 0 els.length sz)):=by
  show V.w (.c (.slice (if k<1 then k else h.next+(k - 1)) 0 els.length sz))=_
  rw[sk]
 rw[ev] at c1
 exact c1.row1 (Nat.le_add_right _ _) (Zy ..) hfl (by rw[H.Zd]; show h.next+(k - 1)<h.next+(h1.next - 1); omega) (fun m hm=>by rw[Ze oM]; rfl)
end
noncomputable def Z8a:Option Out->Option (List (List C))
 | some (.val (.tup [.c s,.c (.int .i64 0)]) h)=>match s with
  | .snil=>some []
  | .slice n 0 len 1=>match h.get n with
   | some (.row 1 els false)=>bif Nat.ble 1 n&&Nat.blt n h.next&&Nat.ble 1 els.length&&Nat.beq els.length len&&els.all (fun l=>l.all C.flat) then some els else none
   | _=>none
  | _=>none
 | _=>none
theorem Zzk {o:Option Out} {els:List (List C)} (e:Z8a o=some els):∃ h s,o=some (.val (.tup [.c s,.c (.int .i64 0)]) h)/\((els=[]/\s=.snil)\/∃ n,1<=n/\n<h.next/\s=.slice n 0 els.length 1/\h.get n=some (.row 1 els false)/\els.all (fun l=>l.all C.flat)=true/\1<=els.length):=by
 unfold Z8a at e
 split at e
 ·rename_i s h
  split at e
  ·cases e; exact⟨h,.snil,rfl,.inl ⟨rfl,rfl⟩⟩
  ·rename_i n len
   split at e
   ·rename_i els' ho
    cases hb:(Nat.ble 1 n&&Nat.blt n h.next&&Nat.ble 1 els'.length&&Nat.beq els'.length len&&els'.all (fun l=>l.all C.flat)) with
    | false=>rw[hb] at e; cases e
    | true =>
     rw[hb] at e
     cases e
     simp only[aQ] at hb
     obtain⟨⟨⟨⟨b1,b2⟩,b3⟩,b4⟩,b5⟩:=hb
     obtain rfl:=bQ b4
     exact⟨h,_,rfl,.inr ⟨n,lQ b1,by simpa [Nat.blt_eq] using b2,rfl,ho,b5,lQ b3⟩⟩
   ·cases e
  ·cases e
 ·cases e
section
variable {K:Cfg} {P:Program} {Y:Kn} {f:FuncId} {args:List W}
theorem Zu.Z6j (F:Fits K P) (Hh:Hearts K P) (hY:Zcj K P Y) {G:Nat} (hg:K.globs=Tree.set .nil G 0) {n:Nat} {els:List (List C)} (e:Z8a (evX K Y n (.call f args ⟨.nil,1⟩))=some els) (ha:args.all W.flat=true) (h:H) (hpos:0<h.next) :
  ∃ h' s,Zu K P f args h (.tup [.c s,.c (.int .i64 0)]) h'/\h.next<=h'.next/\(∀ m,m<h.next->h'.get m=h.get m)/\((els=[]/\s=.snil)\/∃ q,h.next<=q/\q<h'.next/\s=.slice q 0 els.length 1/\h'.get q=some (.row 1 els false)/\1<=els.length):=by
 obtain⟨h1,s,e1,hs⟩:=Zzk e
 have c0:Zu K P f args ⟨.nil,1⟩ (.tup [.c s,.c (.int .i64 0)]) h1:=(Er F Hh hY n).call f args _ _ _ e1
 have none0:∀ n o,¬ (⟨.nil,1⟩:H).get n=some o:=fun n o hn=>by cases hn
 have L:Lies K (fun n=>if n<1 then n else h.next+(n - 1)) ⟨.nil,1⟩ h:=by
  refine⟨fun n hn=>if_neg (by have:1<=n:=hn; omega),fun n hn=>?_,fun n o ho=>(none0 n o ho).elim,fun n n' o o' ho=>(none0 n o ho).elim,fun g n hgn=>?_⟩
  ·show (if n<1 then n else _)<h.next
   have:n<1:=hn
   rw[if_pos this]
   omega
  ·rw[(Ns hg hgn).2]; rfl
 rcases hs with ⟨rfl,rfl⟩|⟨k,k1,k2,rfl,ho,hfl,el⟩
 ·have c1:=c0.frame L (h':=⟨h.m,h.next+(h1.next - 1)⟩) ⟨rfl,fun m o ho=>.inl ⟨ho,fun n o' ho'=>(none0 n o' ho').elim⟩⟩
  rw[Jm (fun a ha=>W.Y7 ha _) ha] at c1
  exact⟨⟨h.m,h.next+(h1.next - 1)⟩,.snil,c1,Nat.le_add_right _ _,fun m _=>rfl,.inl ⟨rfl,rfl⟩⟩
 ·have fl:∀ σ:Nat->Nat,(O.row 1 els false).ren σ=.row 1 els false:=fun σ=>by
   show O.row 1 (els.map (List.map (C.ren σ))) false=_
   rw[Jm (fun l hl=>Jm (fun a ha=>C.Y7 ha _) hl) hfl]
  have sk:(if k<1 then k else h.next+(k - 1))=h.next+(k - 1):=if_neg oM
  have c1:=c0.frame L (h':=(⟨h.m,h.next+(h1.next - 1)⟩:H).put (h.next+(k - 1)) (.row 1 els false)) ⟨rfl,fun m o ho'=>by
   rw[H.get_put] at ho'
   split at ho'
   ·rename_i hm
    cases ho'
    exact .inr ⟨k,_,ho,rfl,rfl,by show (if k<1 then k else h.next+(k - 1))=m; rw[sk,hm],(fl _).symm⟩
   ·exact .inl ⟨ho',fun n o' ho2=>(none0 n o' ho2).elim⟩⟩
  rw[Jm (fun a ha=>W.Y7 ha _) ha] at c1
  refine⟨(⟨h.m,h.next+(h1.next - 1)⟩:H).put (h.next+(k - 1)) (.row 1 els false),.slice (h.next+(k - 1)) 0 els.length 1,?_,Nat.le_add_right h.next _,fun m hm=>by rw[Ze oM]; rfl,.inr ⟨h.next+(k - 1),Nat.le_add_right _ _,by rw[H.Zd]; show h.next+(k - 1)<h.next+(h1.next - 1); omega,rfl,Zy ..,el⟩⟩
  have ev:(V.tup [.c (.slice k 0 els.length 1),.c (.int .i64 0)]).ren (fun n=>if n<1 then n else h.next+(n - 1))=.tup [.c (.slice (h.next+(k - 1)) 0 els.length 1),.c (.int .i64 0)]:=by
   show V.tup [.c (.slice (if k<1 then k else h.next+(k - 1)) 0 els.length 1),.c (.int .i64 0)]=_
   rw[sk]
  rw[ev] at c1
  exact c1
end
open Go.RowKit
section
variable {K:Cfg} {P:Program} {f:FuncId} {args:List W} {h h':H}
theorem Znm {ρ:Ren} {W:World} (hr:Rep K ρ h W) (hd:Dom ρ h.next) (hro:∀ n o,h.get n=some o->o.ro=true) (c:Zu K P f args h (.w (.c (.bool true))) h') {vals:List Value} (ha:Yp (Jw ρ) args vals) :
  Calls P f vals.toArray W fun e W'=>e=.returned (.bool true)/\Below W.heap.size W W':=by
 have:=c.2 ρ W vals none 0 hr hd ha
 refine (callsIn_wide.1 (show CallsIn Fence.wide 0 P f vals.toArray W _ from this)).mono ?_
 rintro e W' ⟨ρ',val,rfl,aft,hv⟩
 have e:val=.bool true:=hv
 subst e
 refine⟨rfl,aft.fr.os,aft.fr.tape,aft.fr.output,aft.fr.size,fun k hk=>aft.fr.keep k hk ?_⟩
 rintro⟨m,o,l,ho,hr0,_⟩
 rw[hro m o ho] at hr0
 cases hr0
end
theorem Zx8 {w:World} {base:Nat} {a:Addr} {n:Nat} {cs:List Value} (h:w.cells? base a n=some cs):cs.length=n/\∀ i,i<n->w.cell? (a.add i)=cs[i]?:=by
 unfold World.cells? at h
 split at h
 ·have hl:cs.length=n:=by simpa using mapM_some_length h
  refine⟨hl,fun i hi=>?_⟩
  exact mapM_some_get h i i (by simp [hi])
 ·cases h
open Go.ChangeShapes Go.WideShapes
inductive Kt where
 | int (k:IntKind)
 | bool
 | str
def Kt.has:Kt->Value->Prop
 | .int k,v=>∃ n,v=.int k n/\(Lit.int k n).wf=true
 | .bool,v=>∃ b,v=.bool b
 | .str,v=>∃ s:ByteArray,v=.string s
section
variable {P:Program} {cs:List Value}
end
end Go.Ev
