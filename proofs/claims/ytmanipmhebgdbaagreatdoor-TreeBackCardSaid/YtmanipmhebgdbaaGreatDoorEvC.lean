/- The evaluator, its soundness and the calculus on its level: several texts in one. -/
import Derived.Test.YtmanipmhebgdbaaGreatDoorEvB
import Derived.Below
import Derived.OpenShut
import Derived.MakeChecks
import Derived.ChangeArms
import Derived.FnData
import Derived.Attr
import Derived.DefersIn
import Derived.WideShapes
set_option linter.unusedSimpArgs false
set_option linter.unusedVariables false
set_option linter.unusedSectionVars false
namespace Go.Ev
open Go.RowKit Go.Maps
section
variable {K:Cfg} {P:Program} {ρ:Ren} {h h':H} {w w':World}
theorem Rep.newAt (hr:Rep K ρ h w) (hn:ρ h.next=none) (o:O) (g room:Nat) (hg:w.heap.size<=g) (hk:∀ k,k<w.heap.size->w'.heap[k]? = w.heap[k]?) (hs:w.heap.size<=w'.heap.size)
  (hor:Dv (ρ.set h.next ⟨g,0,room⟩) w' o ⟨g,0,room⟩) (h1:w'.os=w.os) (h2:w'.tape=w.tape) (h3:w'.output=w.output) (hro:o.ro=false:=by rfl) :
  Aft K ρ h w (ρ.set h.next ⟨g,0,room⟩) (h.new o) w':=by
 have hle:Ren.le ρ (ρ.set h.next ⟨g,0,room⟩):=Ren.Wm hn _
 have hold:∀ m x,m≠h.next->(h.new o).get m=some x->∃ lm,ρ m=some lm/\Dv ρ w x lm:=fun m x hm hx=>by
  rw[H.Zp,if_neg hm] at hx
  exact hr.obj m x hx
 refine⟨hle,New.set _ _ _,⟨fun g n hg=>?_,fun m x hx=>?_,fun m m' x x' lm lm' hne hx hx' hlm hlm'=>?_⟩,⟨h1,h2,h3,hs,fun k hk' _=>hk k hk',fun k hm=>?_,fun m x hx hxr=>?_⟩,Nat.le_succ _⟩
 ·obtain⟨r,hr'⟩:=hr.glob g n hg
  exact⟨r,hle _ _ hr'⟩
 ·by_cases e:m=h.next
  ·subst e
   rw[H.Zp,if_pos rfl] at hx
   cases hx
   exact⟨_,Ren.Ja _ _ _,hor⟩
  ·obtain⟨lm,hlm,hrm⟩:=hold m x e hx
   exact⟨lm,hle _ _ hlm,(hrm.mono hle).congr (hk _ hrm.lt)⟩
 ·by_cases e:m=h.next
  ·subst e
   rw[Ren.Ja] at hlm
   cases hlm
   obtain⟨l2,hl2,hr2⟩:=hold m' x' (fun e=>hne e.symm) hx'
   rw[Ren.Lt _ _ (fun e=>hne e.symm),hl2] at hlm'
   cases hlm'
   have:=hr2.lt
   intro _
   simp only
   omega
  ·obtain⟨l1,hl1,hr1⟩:=hold m x e hx
   rw[Ren.Lt _ _ e,hl1] at hlm
   cases hlm
   by_cases e':m'=h.next
   ·subst e'
    rw[Ren.Ja] at hlm'
    cases hlm'
    have:=hr1.lt
    intro _
    simp only
    omega
   ·obtain⟨l2,hl2,hr2⟩:=hold m' x' e' hx'
    rw[Ren.Lt _ _ e',hl2] at hlm'
    cases hlm'
    rw[H.Zp,if_neg e] at hx
    rw[H.Zp,if_neg e'] at hx'
    exact hr.inj m m' x x' _ _ hne hx hx' hl1 hl2
 ·obtain⟨m,x,lm,hx,hxr,hlm,hkm⟩:=hm
  by_cases e:m=h.next
  ·subst e
   rw[Ren.Ja] at hlm
   cases hlm
   exact .inl (by simp only at hkm; omega)
  ·rw[H.Zp,if_neg e] at hx
   rw[Ren.Lt _ _ e] at hlm
   exact .inr ⟨m,x,lm,hx,hxr,hlm,hkm⟩
 ·rw[H.Zp] at hx
  split at hx
  ·cases hx
   rw[hro] at hxr
   cases hxr
  ·exact hx
theorem Rep.stay (hr:Rep K ρ h w) (hk:∀ k,k<w.heap.size->w'.heap[k]? = w.heap[k]?) (hs:w.heap.size<=w'.heap.size) (h1:w'.os=w.os) (h2:w'.tape=w.tape) (h3:w'.output=w.output):Aft K ρ h w ρ h w':=by
 refine⟨Ren.le.refl _,New.refl _ _ _,⟨hr.glob,fun m x hx=>?_,hr.inj⟩,⟨h1,h2,h3,hs,fun k hk' _=>hk k hk',fun k hm=>.inr hm,fun m x hx _=>hx⟩,Nat.le_refl _⟩
 obtain⟨lm,hlm,hrm⟩:=hr.obj m x hx
 exact⟨lm,hlm,hrm.congr (hk _ hrm.lt)⟩
theorem Zer (a:Int):∀ l:List Int,(Zc8 a l).Perm (a :: l)
 | []=>List.Perm.refl _
 | b :: l=>by
  unfold Zc8
  split
  ·exact List.Perm.refl _
  ·exact ((Zer a l).cons b).trans (List.Perm.swap a b l)
theorem Zf3 (a:Int):∀ l:List Int,l.Pairwise (· <= ·)->(Zc8 a l).Pairwise (· <= ·)
 | [],_=>by simp [Zc8]
 | b :: l,hl=>by
  unfold Zc8
  have hb:=List.pairwise_cons.1 hl
  split
  ·rename_i hab
   refine List.pairwise_cons.2 ⟨fun x hx=>?_,hl⟩
   rcases List.mem_cons.1 hx with rfl|hx
   ·exact hab
   ·exact Int.le_trans hab (hb.1 x hx)
  ·rename_i hab
   refine List.pairwise_cons.2 ⟨fun x hx=>?_,Zf3 a l hb.2⟩
   rcases List.mem_cons.1 ((Zer a l).mem_iff.1 hx) with rfl|hx
   ·omega
   ·exact hb.1 x hx
def Zab (e:MapEntry):Int:=match e.key with
 | .int _ n=>n
 | _=>0
theorem Vl:∀ (es:List (W × W)) (l:List Int) (xs:List MapEntry),En es=some l->Yq (Zgc ρ) es xs ->
  l.Pairwise (· <= ·)/\l.Perm (xs.map Zab)/\∀ e∈xs,∃ a:Int,e.key=.int .i64 a/\Rn a=true
 | [],l,[],hl,_=>by
  cases hl
  exact⟨List.Pairwise.nil,List.Perm.refl _,fun e he=>by cases he⟩
 | [],_,_ :: _,_,h=>h.elim
 | _ :: _,_,[],_,h=>h.elim
 | (k,v) :: es,l,x :: xs,hl,hx=>by
  unfold En at hl
  split at hl
  ·rename_i e
   cases e
  ·rename_i a v' es' e
   cases e
   cases hf:Rn a with
   | false=>rw[hf] at hl; cases hl
   | true =>
    rw[hf] at hl
    simp only[cond_true] at hl
    split at hl
    ·cases hl
    ·rename_i r hr
     cases hl
     obtain⟨p1,p2,p3⟩:=Vl es r xs hr hx.2
     have hk:x.key=.int .i64 a:=hx.1.1
     refine⟨Zf3 a r p1,?_,fun e he=>?_⟩
     ·refine (Zer a r).trans ?_
      rw[List.map_cons]
      have:Zab x=a:=by simp [Zab,hk]
      rw[this]
      exact p2.cons a
     ·rcases List.mem_cons.1 he with rfl|he
      ·exact⟨a,hk,hf⟩
      ·exact p3 e he
  ·cases hl
theorem insert_perm {H:Type} (x:Lit × DataW H):∀ l:List (Lit × DataW H),(DataW.insert x l).Perm (x :: l)
 | []=>List.Perm.refl _
 | y :: r=>by
  unfold DataW.insert
  split
  ·exact List.Perm.refl _
  ·exact ((insert_perm x r).cons y).trans (List.Perm.swap x y r)
theorem Tm {H:Type}:∀ l:List (Lit × DataW H),(l.foldr DataW.insert []).Perm l
 | []=>List.Perm.refl _
 | x :: l=>(insert_perm x _).trans ((Tm l).cons x)
theorem Zwh (P:Program) (k:TypeId) (hk:P.underlying k=some (.int .i64)) {b clock:Nat} {xs:Array MapEntry} (hb:w.heap[b]? = some (.map xs clock)) (hborn:Born xs.toList clock) (hn:xs.size<=1000000)
  (hkeys:∀ e∈xs.toList,∃ a:Int,e.key=.int .i64 a/\Rn a=true) :
  ∃ D:DataW Nat,w.ownsMap P k (fun _=>some (.nil,[])) b xs.size D/\Maps.size D=xs.size/\(Go.intKeys D).Perm (xs.toList.map Zab):=by
 have hrd:∀ e∈xs.toList,WideElems.rd P k (fun _=>some ((.nil,[]):DataW Nat × List MemPlace)) e=some (.int .i64 (Zab e),.nil):=by
  intro e he
  obtain⟨a,ha,hf⟩:=hkeys e he
  have hwf:(Lit.int .i64 a).wf=true:=by
   simp [Rn] at hf
   simp [Lit.wf,IntKind.min,IntKind.max,IntKind.signed,IntKind.bits]
   omega
  simp [WideElems.rd,ha,keyOf,hk,mapKey,hwf,Zab]
 have hrg:xs.toList.map (WideElems.rg P k (fun _=>some ((.nil,[]):DataW Nat × List MemPlace)))=xs.toList.map (fun e=>(Lit.int .i64 (Zab e),(.nil:DataW Nat))):=by
  apply List.map_congr_left
  intro e he
  simp [WideElems.rg,hrd e he]
 have hp:=Tm (xs.toList.map (fun e=>(Lit.int .i64 (Zab e),(.nil:DataW Nat))))
 have hml:xs.size<=maxLen:=Nat.le_trans hn dM
 refine⟨_,⟨xs,clock,hb,⟨hml,⟨hborn.old,?_⟩,fun x hx=>⟨_,hrd x hx⟩⟩,Nat.le_refl _,rfl⟩,?_,?_⟩
 ·refine⟨List.pairwise_map.2 (hborn.up.imp fun h e=>?_),List.pairwise_map.2 (hborn.apart.imp_of_mem fun {x y} hx hy h e=>?_)⟩
  ·rw[e] at h
   exact Nat.lt_irrefl _ h
  ·obtain⟨p,hp,_⟩:=hkeys x hx
   exact h _ _ hp (e.symm.trans hp)
 ·rw[hrg,Maps.size_eq,hp.length_eq,List.length_map,Array.length_toList]
 ·rw[hrg]
  refine (hp.map _).trans ?_
  rw[List.map_map]
  exact List.Perm.refl _
structure SortC (P:Program) (f:FuncId):Prop where
 call:Oz P f
 lay:∃ r:Go.Shelf.Ren,Go.Proofs.SlLaysZI.n6 P r/\r.f 6=f/\Go.Proofs.AnyZI.SortsIn P r Fence.wide 3/\∀ args w,(callFunc (r.f 9) args).run P w=.ok (.enter (r.f 9) args) w
structure KeysC (P:Program) (g:FuncId):Prop where
 lay:∃ r:Go.Shelf.Ren,Go.Proofs.SlLaysZI.n10 P r/\r.f 10=g/\∀ args w,(callFunc g args).run P w=.ok (.enter g args) w
theorem Ze8 {f g:FuncId} (c:SortC P f) (eg:∀ args w,(callFunc g args).run P w=.ok (.enter g args) w) {lb:Array Value} {S:List Int->Prop} {N:Nat} (hN:N<=1000000) (hs:SeqGives Fence.wide 1 P g lb Go.encZ S N w) {r:Option Nat} {m:Nat} :
  CallsIn (Wd r) m P f #[.func (.func g) #[] lb] w fun e w'=>∃ (v:Value) (ss:List Int) (t:TypeId),e=.returned v/\S ss /\
   w'.ownsRow w.heap.size t 1 v ss.length ((ss.mergeSort (fun x y=>decide (x<=y))).map Go.encZ)/\(v=.slice none 0 0 ↔ ss=[])/\Below w.heap.size w w':=by
 obtain⟨q,L,rfl,hsort,e9⟩:=c.lay
 have hml:N<=maxLen:=Nat.le_trans hN dM
 refine R8 (callsIn_wide.1 ((Go.Proofs.AnyZI.sorted_in L Fence.wide 4 trivial trivial trivial trivial rfl (Nat.le_refl _) hsort e9 g lb trivial eg S N hml oM w hs).mono ?_))
 rintro e w' ⟨v,ss,he,h1,h2,h3,h4⟩
 exact⟨v,ss,_,he,h1,h2,h3,h4⟩
theorem Z7l {l ss:List Int} (hl:l.Pairwise (· <= ·)) (hp:ss.Perm l):ss.mergeSort (fun x y=>decide (x<=y))=l:=by
 refine List.Perm.eq_of_pairwise (le:=(· <= ·)) (fun a b _ _ h1 h2=>Int.le_antisymm h1 h2) ?_ hl ((List.mergeSort_perm _ _).trans hp)
 exact (List.pairwise_mergeSort (le:=fun x y:Int=>decide (x<=y)) (fun a b c h1 h2=>by simp at *; omega) (fun a b=>by simp; omega) ss).imp (fun h=>by simpa using h)
theorem Ztx {l ss:List Int} (hl:l.Pairwise (· <= ·)) (hp:ss.Perm l) (hne:l≠[]) (hr:Rep K ρ h w) (hd:Dom ρ h.next) {v:Value} {t:TypeId}
  (ho:w'.ownsRow w.heap.size t 1 v ss.length ((ss.mergeSort (fun x y=>decide (x<=y))).map Go.encZ)) (hb:Below w.heap.size w w') :
  R3 K ρ h w (.w (.c (.slice h.next 0 l.length 1))) (h.new (.row 1 (l.map fun i=>[.int .i64 i]) false)) (.returned v) w':=by
 rw[Z7l hl hp] at ho
 have hlen:=hp.length_eq
 rcases ho.2 with ⟨_,h0⟩|⟨g,cap,cur,rfl,hg,hh,h1,h2,h3,h4⟩
 ·exact absurd (List.eq_nil_of_length_eq_zero (hlen ▸ h0)) hne
 ·rw[hlen] at h1 h4 ⊢
  refine⟨_,_,rfl,hr.newAt (hd _ (Nat.le_refl _)) _ g cap hg hb.block hb.size ?_ hb.os hb.tape hb.output,?_⟩
  ·refine⟨cur,t,(0,0),hh,by simpa using h3,fun _=>.inl rfl,fun x hx=>?_,fun k c hc=>?_⟩
   ·obtain⟨i,_,rfl⟩:=List.mem_map.1 hx
    rfl
   ·unfold read1 at hc
    simp only[Nat.div_one,Nat.mod_one] at hc
    split at hc
    ·cases hc
    ·rename_i e he
     rw[List.getElem?_map] at he
     cases hi:l[k]? with
     | none=>rw[hi] at he; cases he
     | some i =>
      rw[hi] at he
      cases he
      cases hc
      refine⟨.int .i64 i,?_,rfl⟩
      have hk:k<l.length:=(List.getElem?_eq_some_iff.1 hi).1
      have:(cur.toList.take (l.length * 1))[k]? = some (Go.encZ i):=by rw[h4,List.getElem?_map,hi]; rfl
      rw[List.getElem?_take_of_lt oM,Array.getElem?_toList] at this
      simpa using this
  ·exact⟨_,_,cap,Ren.Ja _ _ _,rfl,.inr ⟨rfl,h1,by simp⟩⟩
theorem Zyu {f:FuncId} (c:SortC P f) (kc:∀ g,K.keys.contains g=true->KeysC P g) {args:List W} {v:V} (hv:Ns K h args=some (.val v h')) {vals:List Value} {r:Option Nat} {m:Nat} (hr:Rep K ρ h w) (hd:Dom ρ h.next) (ha:Yq (Jv ρ) args vals):CallsIn (Wd r) m P f vals.toArray w (R3 K ρ h w v h'):=by
 unfold Ns at hv
 split at hv
 ·rename_i g a off
  cases hb:K.keys.contains g with
  | false=>rw[hb] at hv; cases hv
  | true =>
   rw[hb] at hv
   simp only[cond_true] at hv
   split at hv
   ·rename_i sz els ro ho
    obtain⟨u,rfl,hu⟩:=Nf ha
    obtain⟨fa,ca,rfl,q1,q2⟩:=hu
    have hfa:fa = #[]:=by
     cases hfl:fa.toList with
     | nil=>exact Array.toList_eq_nil_iff.1 hfl
     | cons x y=>rw[hfl] at q1; exact q1.elim
    subst hfa
    obtain⟨cv,hcv,hcp⟩:=Nf q2
    obtain⟨la,hla,rfl⟩:=hcp
    have hca:ca = #[.pointer (some (la.at off))]:=by
     apply Array.toList_inj.1
     rw[hcv]
    subst hca
    obtain⟨la',hla',cs,t,fr,hcell,hsz,hfr,hw,hrd⟩:=hr.obj a _ ho
    rw[hla] at hla'
    cases hla'
    obtain⟨rk,LK,rfl,eg⟩:=(kc g hb).lay
    have hBm:la.blk<w.heap.size:=(Array.getElem?_eq_some_iff.1 hcell).1
    unfold Zdw at hv
    split at hv
    ·
     rename_i hc1
     cases hv
     obtain⟨cv,hcv1,hcv2⟩:=hrd off _ hc1
     have e:cv=.map none:=hcv2
     subst e
     have hm:w.cell? (la.at off)=some (.map none):=by simp [World.cell?,Loc.at,hcell,hcv1]
     refine (Ze8 c eg (N:=0) oM (Go.Proofs.EvKeys.Zxz LK Fence.wide 1 trivial rfl la.blk (la.base+off) w hBm hm)).mono ?_
     rintro e w' ⟨v,ss,t,rfl,rfl,h2,h3,h4⟩
     refine⟨ρ,v,rfl,hr.stay h4.block h4.size h4.os h4.tape h4.output,?_⟩
     rw[h3.2 rfl]
     rfl
    ·rename_i n hc1
     split at hv
     ·rename_i es hes
      obtain⟨cv,hcv1,lm,hlm,rfl⟩:=hrd off _ hc1
      have hm:w.cell? (la.at off)=some (.map (some lm.blk)):=by simp [World.cell?,Loc.at,hcell,hcv1]
      obtain⟨lm',hlm',xs,clock,hxb,hxs,hborn⟩:=hr.obj n _ hes
      rw[hlm] at hlm'
      cases hlm'
      unfold Ze7 at hv
      split at hv
      ·rename_i hsk
       cases hv
       obtain⟨p1,p2,p3⟩:=Vl es [] xs.toList hsk hxs
       have hx0:xs.toList=[]:=by
        have:=p2.length_eq
        simp at this
        simpa using this.symm
       have hsz0:xs.size=0:=by rw[<-Array.length_toList,hx0]; rfl
       obtain⟨D,d1,d2,d3⟩:=Zwh P (rk.t 26) LK.t26 hxb hborn oM p3
       refine (Ze8 c eg (N:=Maps.size D) oM (Go.Proofs.EvKeys.gives LK Fence.wide 1 trivial rfl (Nat.le_refl _) la.blk (la.base+off) lm.blk _ D w hBm hm d1)).mono ?_
       rintro e w' ⟨v,ss,t,rfl,hss,h2,h3,h4⟩
       refine⟨ρ,v,rfl,hr.stay h4.block h4.size h4.os h4.tape h4.output,?_⟩
       have hs0:ss=[]:=by
        have:=(hss.trans d3).length_eq
        rw[hx0] at this
        exact List.eq_nil_of_length_eq_zero this
       rw[h3.2 hs0]
       rfl
      ·rename_i l hne hsk
       cases hb2:Nat.ble l.length 1000000 with
       | false=>rw[hb2] at hv; cases hv
       | true =>
        rw[hb2] at hv
        cases hv
        have hle:=U8 hb2
        obtain⟨p1,p2,p3⟩:=Vl es l xs.toList hsk hxs
        have hll:=p2.length_eq
        rw[List.length_map] at hll; have hxl:xs.toList.length=xs.size:=Array.length_toList
        obtain⟨D,d1,d2,d3⟩:=Zwh P (rk.t 26) LK.t26 hxb hborn oM p3
        refine (Ze8 c eg (N:=Maps.size D) oM (Go.Proofs.EvKeys.gives LK Fence.wide 1 trivial rfl (Nat.le_refl _) la.blk (la.base+off) lm.blk _ D w hBm hm d1)).mono ?_
        rintro e w' ⟨v,ss,t,rfl,hss,h2,h3,h4⟩
        exact Ztx p1 ((hss.trans d3).trans p2.symm) (fun e=>hne e) hr hd h2 h4
      ·cases hv
     ·cases hv
    ·cases hv
   ·cases hv
 ·cases hv
end
open Go.RowKit
def atO {α:Type} (p:Nat->α->Prop) (o:Nat):Option α->Prop
 | some x=>p o x
 | none=>True
def Tree.Zmp {α:Type} (p:Nat->α->Prop):Tree α->Nat->Nat->Prop
 | .nil,_,_=>True
 | .node v l r,m,o=>atO p o v/\l.Zmp p (2 * m) (o+m)/\r.Zmp p (2 * m) (o+2 * m)
theorem Tree.Zmp.get {α:Type} {p:Nat->α->Prop}:∀ {t:Tree α} {m o:Nat},t.Zmp p m o->∀ k x,t.get k=some x->p (o+m * k) x
 | .nil,_,_,_,k,x,h=>by rw[Tree.Fj] at h; cases h
 | .node v l r,m,o,⟨h1,h2,h3⟩,k,x,h=>by
  rw[Tree.Be] at h
  split at h
  ·rename_i e
   subst e
   rw[h] at h1
   have h2:p o x:=h1
   simpa using h2
  ·rename_i e
   split at h
   ·rename_i e2
    have:=h2.get _ _ h
    have e3:o+m+2 * m * (k / 2)=o+m * k:=by
     have:k=2 * (k / 2)+1:=oM
     conv=>rhs; rw[this]
     rw[Nat.mul_add,<-Nat.mul_assoc,Nat.mul_comm m 2]
     omega
    rwa [e3] at this
   ·rename_i e2
    have:=h3.get _ _ h
    have e3:o+2 * m+2 * m * (k / 2 - 1)=o+m * k:=by
     obtain⟨q,hq⟩:∃ q,k=2 * q+2:=⟨k / 2 - 1,oM⟩
     have hq2:k / 2 - 1=q:=oM
     rw[hq2,hq,Nat.mul_add,<-Nat.mul_assoc,Nat.mul_comm m 2]
     omega
    rwa [e3] at this
def Tree.Zbk {α:Type} (p:Nat->α->Bool) (t:Tree α):Nat->Nat->Bool:=match t with
 | .nil=>fun _ _=>true
 | .node v l r=>fun m o=>(match v with|some x=>p o x|none=>true)&&l.Zbk p (2 * m) (o+m)&&r.Zbk p (2 * m) (o+2 * m)
theorem Tree.Zci {α:Type} {p:Nat->α->Bool}:∀ {t:Tree α} {m o:Nat},t.Zbk p m o=true->t.Zmp (fun i x=>p i x=true) m o
 | .nil,_,_,_=>trivial
 | .node v l r,m,o,h=>by
  unfold Tree.Zbk at h
  rw[aQ,aQ] at h
  refine⟨?_,Tree.Zci h.1.2,Tree.Zci h.2⟩
  cases v with
  | none=>trivial
  | some x=>exact h.1.1
def Zs5 (ti:TI):Option TypeInfo->Bool
 | some i=>Nat.beq i.size ti.size&&Nat.beq i.bytes ti.bytes&&(match i.zero with
  | some z=>(match Zeb z with
   | some u=>eqV u (.w ti.zero)
   | none=>false)
  | none=>false)
 | none=>false
def Zcy (P:Program):List Field->Bool
 | []=>true
 | f :: l=>(P.info? f.type).isSome&&Zcy P l
def Zg0 (P:Program):TypeDesc->Bool
 | .slice e=>(P.info? e).isSome
 | .struct fs=>Zcy P fs.toList
 | _=>true
def Z7t (P:Program) (t:Nat) (ti:TI):Bool :=
 Zs5 ti (P.info? t)&&(ti.agg == ti.desc.isRow)&&Nat.beq ti.zero.cells.length ti.size&&Zg0 P ti.desc&&(!ti.plain || (!P.stoodInHeld t&&!P.eqGuardType P.depth t))
def Ztc (_:Nat) (fn:Func):Bool:=!(fn.name == "runtime.NumGoroutine")
theorem Zcz {P:Program}:∀ {l:List Field},Zcy P l=true->∀ f∈l,∃ i,P.info? f.type=some i
 | [],_,f,hf=>by cases hf
 | g :: l,h,f,hf=>by
  unfold Zcy at h
  rw[aQ] at h
  rcases List.mem_cons.1 hf with rfl|hf
  ·exact Option.isSome_iff_exists.1 h.1
  ·exact Zcz h.2 f hf
theorem Z5w {K:Cfg} {P:Program} (hm:P.follows .mixedOrders=true) (hf:K.funcs.Zmp (fun i fn=>P.funcs[i]? = some fn) 1 0) (hn:K.funcs.Zbk Ztc 1 0=true)
  (hu:K.types.Zmp (fun i ti=>P.underlying i=some ti.desc) 1 0) (ht:K.types.Zbk (Z7t P) 1 0=true):Fits K P:=by
 have ht':∀ t ti,K.types.get t=some ti->Z7t P t ti=true:=fun t ti h=>by
  have:=(Tree.Zci ht).get t ti h
  simpa using this
 have ht2:∀ t ti,K.types.get t=some ti->Zs5 ti (P.info? t)=true/\ti.agg=ti.desc.isRow/\ti.zero.cells.length=ti.size/\Zg0 P ti.desc=true/\(ti.plain=true->P.stoodInHeld t=false/\P.eqGuardType P.depth t=false):=fun t ti h=>by
  have:=ht' t ti h
  unfold Z7t at this
  simp only[aQ,Bool.or_eq_true,beq_iff_eq,Bool.not_eq_true'] at this
  obtain⟨⟨⟨⟨h1,h2⟩,h3⟩,h4⟩,h5⟩:=this
  refine⟨h1,h2,bQ h3,h4,fun hp=>?_⟩
  rcases h5 with h5|h5
  ·rw[hp] at h5; cases h5
  ·exact h5
 refine⟨fun f fn h=>?_,fun f fn h e=>?_,hm,fun t ti h=>?_,fun t ti h=>?_,fun t ti h=>(ht2 t ti h).2.1,fun t ti h=>(ht2 t ti h).2.2.1,fun t ti el h e=>?_,fun t ti fs h e=>?_,fun t ti h=>(ht2 t ti h).2.2.2.2⟩
 ·have:=hf.get f fn h
  simpa using this
 ·have:=(Tree.Zci hn).get f fn h
  unfold Ztc at this
  rw[e] at this
  simp at this
 ·have:=hu.get t ti h
  simpa using this
 ·have h1:=(ht2 t ti h).1
  unfold Zs5 at h1
  split at h1
  ·rename_i i hi
   simp only[aQ] at h1
   obtain⟨⟨a,b⟩,c⟩:=h1
   split at c
   ·rename_i z hz
    split at c
    ·rename_i u hu
     have e:=Z00 c
     subst e
     exact⟨i,hi,bQ a,bQ b,z,hz,fun ρ=>Zpc ρ hu⟩
    ·cases c
   ·cases c
  ·cases h1
 ·have h4:=(ht2 t ti h).2.2.2.1
  rw[e] at h4
  exact Option.isSome_iff_exists.1 h4
 ·have h4:=(ht2 t ti h).2.2.2.1
  rw[e] at h4
  exact Zcz h4
open Go.RowKit
def isTrue:Option Out->Bool
 | some (.val (.w (.c (.bool true))) _)=>true
 | _=>false
theorem Zqq {o:Option Out} (h:isTrue o=true):∃ h',o=some (.val (.w (.c (.bool true))) h'):=by
 unfold isTrue at h
 split at h
 ·exact⟨_,rfl⟩
 ·cases h
def steps16:List Int:=[0,498536548,997073096,651767980,1994146192,1802195444,1303535960,1342533948,3988292384,4027552580,3604390888,3412177804,2607071920,2262029012,2685067896,3183342108]
def Wi:H:=⟨Tree.node (some (.row 16 [[.int .u32 0,.int .u32 498536548,.int .u32 997073096,.int .u32 651767980,.int .u32 1994146192,.int .u32 1802195444,.int .u32 1303535960,.int .u32 1342533948,.int .u32 3988292384,.int .u32 4027552580,.int .u32 3604390888,.int .u32 3412177804,.int .u32 2607071920,.int .u32 2262029012,.int .u32 2685067896,.int .u32 3183342108]] true)) .nil .nil,1⟩
def Vj (G:Nat):Ren:=fun n=>if n=0 then some ⟨G,0,16⟩ else none
theorem Sj {K:Cfg} {G:Nat} (hg:K.globs=Tree.set .nil G 0) {g n:Nat} (h:K.globs.get g=some n):g=G/\n=0:=by
 rw[hg,Tree.Za5] at h
 split at h
 ·rename_i e
  cases h
  exact⟨e,rfl⟩
 ·rw[Tree.Fj] at h; cases h
theorem Zia {K:Cfg} {G:Nat} (hg:K.globs=Tree.set .nil G 0):K.globs.get G=some 0:=by rw[hg,Tree.Za5,if_pos rfl]
theorem Fu {n:Nat} {o:O} (h:Wi.get n=some o):n=0/\o=.row 16 [steps16.map (.int .u32)] true:=by
 have h':(Tree.node (some (O.row 16 [steps16.map (.int .u32)] true)) .nil .nil).get n=some o:=h
 rw[Tree.Be] at h'
 split at h'
 ·rename_i e
  cases h'
  exact⟨e,rfl⟩
 ·split at h'<;>(rw[Tree.Fj] at h'; cases h')
section
variable {K:Cfg} {P:Program} {W:World} {G:Nat}
theorem Ze6 (hg:K.globs=Tree.set .nil G 0) {cs:Array Value} {t:TypeId} {fr:Nat × Nat} (hb:W.heap[G]? = some (.cells cs t fr)) (hcs:cs.toList=steps16.map (Value.int .u32)):Rep K (Vj G) Wi W:=by
 refine⟨fun g n h=>?_,fun n o h=>?_,fun n n' o o' l l' hne h h' _ _=>?_⟩
 ·obtain⟨rfl,rfl⟩:=Sj hg h
  exact⟨16,rfl⟩
 ·obtain⟨rfl,rfl⟩:=Fu h
  refine⟨⟨G,0,16⟩,rfl,cs,t,fr,hb,?_,fun h=>(by cases h),fun x hx=>?_,fun k c hc=>?_⟩
  ·rw[<-Array.length_toList,hcs]
   rfl
  ·simp only[List.mem_singleton] at hx
   subst hx
   rfl
  ·unfold read1 at hc
   have hk:k / 16=0:=by
    rcases Nat.eq_zero_or_pos (k / 16) with e|e
    ·exact e
    ·obtain⟨q,hq⟩:∃ q,k / 16=q+1:=⟨k / 16 - 1,oM⟩
     rw[hq] at hc
     simp at hc
   have hk2:k % 16=k:=oM
   rw[hk,hk2] at hc
   simp only[List.getElem?_cons_zero,List.getElem?_map] at hc
   cases he:steps16[k]? with
   | none=>rw[he] at hc; cases hc
   | some z =>
    rw[he] at hc
    cases hc
    refine⟨.int .u32 z,?_,rfl⟩
    simp only[Nat.zero_add]
    rw[<-Array.getElem?_toList,hcs,List.getElem?_map,he]
    rfl
 ·obtain⟨rfl,_⟩:=Fu h
  obtain⟨rfl,_⟩:=Fu h'
  exact absurd rfl hne
theorem Z6a {H:Type} {enc:TypeId × Value->H} {base:Nat} {spare:Nat->Bool} {held:Bool} {fuel:Nat} {t e:TypeId} {n:Nat} {k:IntKind} {cs:List Value} {zs:List Int} {p:List MemPlace} (ht:P.underlying t=some (.array n e)) (he:P.underlying e=some (.int k)) (hc:P.cellsOf e=1) (hct:P.cellsOf t=n)
  (h:DataW.trod enc P W base spare held fuel t cs=some (.agg (zs.map fun z=>.lit (.int k z)),p)):cs=zs.map (Value.int k):=by
 obtain⟨xs,m,rfl,hx,hlen,hn,hel⟩:=DataW.trod_array ht h
 simp only[Prod.mk.injEq,DataW.agg.injEq] at hx
 have hzl:zs.length=n:=by
  have:=congrArg List.length hx.1
  simp at this
  omega
 apply List.ext_getElem?
 intro i
 rw[List.getElem?_map]
 by_cases hi:i<n
 ·have h1:=hel i hi
  rw[hc,Nat.mul_one] at h1
  have hix:i<xs.length:=oM
  rw[List.getElem?_eq_getElem hix] at h1
  obtain⟨z,e1,e2,_⟩:=DataW.trod_int he h1
  have hcs:cs[i]? = some (.int k z):=by
   have:=congrArg (fun l:List Value=>l[0]?) e1
   simpa [List.getElem?_take,List.getElem?_drop] using this
  have hz:zs[i]? = some z:=by
   have:=congrArg (fun l:List (DataW H)=>l[i]?) hx.1
   simp only[List.getElem?_map,List.getElem?_eq_getElem hix,Option.map_some,e2] at this
   cases hz:zs[i]? with
   | none=>rw[hz] at this; cases this
   | some y =>
    rw[hz] at this
    simp at this
    rw[this]
  rw[hcs,hz]
  rfl
 ·rw[List.getElem?_eq_none oM,List.getElem?_eq_none oM]
  rfl
theorem Zwd {nm:String} {t e:TypeId} (hg:P.globalNamed nm=some G) (hgt:(P.globals[G]?).map (·.type)=some t) (ht:P.underlying t=some (.array 16 e)) (he:P.underlying e=some (.int .u32)) (hc:P.cellsOf e=1) (hct:P.cellsOf t=16)
  (h:laidMetH P [(nm,.agg (steps16.map fun z=>.lit (.int .u32 z)))] W):∃ cs t fr,W.heap[G]? = some (.cells cs t fr)/\cs.toList=steps16.map (Value.int .u32):=by
 rw[MakeChecks.laidMetH_plain _ _ _ rfl] at h
 obtain⟨ps,⟨g0,t0,cs0,f0,p0,q0,hg0,ht0,hv0,hd0,_,_⟩,_,_⟩:=h
 obtain rfl:=Option.some.inj (hg.symm.trans hg0)
 obtain rfl:=Option.some.inj (hgt.symm.trans ht0)
 have e1:=Z6a ht he hc hct hd0
 simp only[World.var?,hg,Option.bind_some] at hv0
 split at hv0
 ·rename_i cs t' fr hb
  cases hv0
  exact⟨_,_,_,hb,e1⟩
 ·cases hv0
end
open Go.RowKit
abbrev Kn:=FuncId->List W->H->Option (V × H)
noncomputable section
def Z8p (K:Cfg) (X:Kn) (ev:Task->Option Out) (t:Task):Option Out :=
 Task.rec (motive:=fun _=>Option Out)
  (fun f args h=>Option.rec (Ew K ev f args h) (fun p=>Prod.rec (fun v h'=>some (.val v h')) p) (X f args h))
  (fun c n rd ds ts h=>Zhy K ev c n rd ds ts h) t
def evX (K:Cfg) (X:Kn) (f:Nat):Task->Option Out :=
 Nat.rec (motive:=fun _=>Task->Option Out) (fun _=>none) (fun _ ih=>Z8p K X ih) f
end
def Zx (K:Cfg) (P:Program) (f:FuncId) (args:List W) (h:H) (v:V) (h':H):Prop :=
 Oz P f/\∀ ρ w vals r m,Rep K ρ h w->Dom ρ h.next->Yq (Jv ρ) args vals->CallsIn (Wd r) m P f vals.toArray w (R3 K ρ h w v h')
def Zch (K:Cfg) (P:Program) (X:Kn):Prop:=∀ f args h v h',X f args h=some (v,h')->Zx K P f args h v h'
section
variable {K:Cfg} {P:Program} {E:Task->Option Out} {X:Kn}
theorem Zrk (F:Fits K P) (Hh:Hearts K P) (hX:Zch K P X) (S:Sound K P E):Sound K P (Z8p K X E):=by
 have T:=Mo F Hh S (Zaz F S)
 refine⟨fun f args h v h' hv=>?_,fun c n rd ds ts h x ds' ts' h' hv=>T.code c n rd ds ts h x ds' ts' h' hv,fun t o hv=>?_⟩
 ·cases hx:X f args h with
  | none =>
   have hv':(Option.rec (Ew K E f args h) (fun p=>Prod.rec (fun v h'=>some (.val v h')) p) (X f args h):Option Out)=some (.val v h'):=hv
   rw[hx] at hv'
   exact T.call f args h v h' hv'
  | some p =>
   obtain⟨v1,h1⟩:=p
   have hv':(Option.rec (Ew K E f args h) (fun p=>Prod.rec (fun v h'=>some (.val v h')) p) (X f args h):Option Out)=some (.val v h'):=hv
   rw[hx] at hv'
   cases hv'
   exact hX f args h v h' hx
 ·cases t with
  | call f args h =>
   cases hx:X f args h with
   | none =>
    have hv':(Option.rec (Ew K E f args h) (fun p=>Prod.rec (fun v h'=>some (.val v h')) p) (X f args h):Option Out)=some o:=hv
    rw[hx] at hv'
    exact T.shape (.call f args h) o hv'
   | some p =>
    obtain⟨v1,h1⟩:=p
    have hv':(Option.rec (Ew K E f args h) (fun p=>Prod.rec (fun v h'=>some (.val v h')) p) (X f args h):Option Out)=some o:=hv
    rw[hx] at hv'
    cases hv'
    exact .inl ⟨_,_,_,_,_,rfl,rfl⟩
  | code c n rd ds ts h=>exact T.shape (.code c n rd ds ts h) o hv
theorem Mc (F:Fits K P) (Hh:Hearts K P) (hX:Zch K P X) (n:Nat):Sound K P (evX K X n):=by
 induction n with
 | zero=>exact⟨fun _ _ _ _ _ h=>(by cases h),fun _ _ _ _ _ _ _ _ _ _ h=>(by cases h),fun _ _ h=>(by cases h)⟩
 | succ n ih=>exact Zrk F Hh hX ih
theorem Zps (F:Fits K P) (Hh:Hearts K P) (hX:Zch K P X) {G:Nat} (hg:K.globs=Tree.set .nil G 0) {W:World} {cs:Array Value} {t:TypeId} {fr:Nat × Nat} (hb:W.heap[G]? = some (.cells cs t fr)) (hcs:cs.toList=steps16.map (Value.int .u32))
  {f:FuncId} {args:List Ev.W} {n:Nat} (ht:isTrue (evX K X n (.call f args Wi))=true) {vals:List Value} (ha:Yq (Jv (Vj G)) args vals) :
  Calls P f vals.toArray W fun e W'=>e=.returned (.bool true)/\Below W.heap.size W W':=by
 obtain⟨h',he⟩:=Zqq ht
 have hd:Dom (Vj G) Wi.next:=fun n hn=>by
  have:n≠0:=by have:1<=n:=hn; omega
  simp [Vj,this]
 have:=((Mc F Hh hX n).call f args Wi _ h' he).2 (Vj G) W vals none 0 (Ze6 hg hb hcs) hd ha
 refine (callsIn_wide.1 (show CallsIn Fence.wide 0 P f vals.toArray W _ from this)).mono ?_
 rintro e W' ⟨ρ',val,rfl,aft,hv⟩
 have e:val=.bool true:=hv
 subst e
 refine⟨rfl,aft.fr.os,aft.fr.tape,aft.fr.output,aft.fr.size,fun k hk=>aft.fr.keep k hk ?_⟩
 rintro⟨m,o,l,ho,hro,_⟩
 obtain⟨rfl,rfl⟩:=Fu ho
 cases hro
end
open Go.RowKit
def Yg (K:Cfg) (P:Program) (n:Nat) (rd:Option Nat) (c:Code) (ds:List Nat) (ts:Zv) (h:H) (x:X) (ds':List Nat) (ts':Zv) (h':H):Prop :=
 ∀ D ρ w a r m,Rep K ρ h w->Dom ρ h.next->Gx ρ n ts a.tmps->Marks ρ D ds a.defers->RdR ρ rd r->c.wpIn (Wd r) m P (Zbp K D ρ h w n x ds' ts' h') a w
section
variable {K:Cfg} {P:Program} {E:Task->Option Out} {X:Kn} {n:Nat} {rd:Option Nat} {ds ds1 ds2:List Nat} {ts ts1 ts2:Zv} {h h1 h2:H} {x:Ev.X} {b c:Code}
theorem Yg.ev (F:Fits K P) (Hh:Hearts K P) (hX:Zch K P X) {k:Nat} (e:evX K X k (.code c n rd ds ts h)=some (.at x ds1 ts1 h1)):Yg K P n rd c ds ts h x ds1 ts1 h1 :=
 (Mc F Hh hX k).code c n rd ds ts h x ds1 ts1 h1 e
theorem Yg.seq (a1:Yg K P n rd b ds ts h .normal ds1 ts1 h1) (a2:Yg K P n rd c ds1 ts1 h1 x ds2 ts2 h2):Yg K P n rd (.seq b c) ds ts h x ds2 ts2 h2:=by
 intro D ρ w a r m hr hd ht hm hrd
 refine wpIn_seq (wpIn_mono (a1 D ρ w a r m hr hd ht hm hrd) ?_)
 rintro e a1 w1 ⟨rfl,ρ1,aft1,tr1,mk1⟩
 show c.wpIn (Wd r) m P _ a1 w1
 refine wpIn_mono (a2 D ρ1 w1 a1 r m aft1.rep (aft1.dom hd) tr1 mk1 (hrd.mono aft1.le)) ?_
 rintro e a2 w2 ⟨rfl,ρ2,aft2,tr2,mk2⟩
 exact⟨rfl,ρ2,aft1.trans aft2,tr2,mk2⟩
theorem Yg.Zwm (hx:x≠.normal) (a1:Yg K P n rd b ds ts h x ds1 ts1 h1):Yg K P n rd (.seq b c) ds ts h x ds1 ts1 h1:=by
 intro D ρ w a r m hr hd ht hm hrd
 refine wpIn_seq (wpIn_mono (a1 D ρ w a r m hr hd ht hm hrd) ?_)
 rintro e a1 w1 ⟨rfl,rest⟩
 cases x with
 | normal=>exact absurd rfl hx
 | exit id=>exact⟨rfl,rest⟩
 | ret=>exact⟨rfl,rest⟩
theorem Yg.cond_true {o:Operand} (hc:Z4 K ts o=some (.bool true)) (a1:Yg K P n rd b ds ts h x ds1 ts1 h1):Yg K P n rd (.cond o b c) ds ts h x ds1 ts1 h1 :=
 fun D ρ w a r m hr hd ht hm hrd=>wpIn_cond_true ((N8 hr ht).c hc) (a1 D ρ w a r m hr hd ht hm hrd)
theorem Yg.cond_false {o:Operand} (hc:Z4 K ts o=some (.bool false)) (a1:Yg K P n rd c ds ts h x ds1 ts1 h1):Yg K P n rd (.cond o b c) ds ts h x ds1 ts1 h1 :=
 fun D ρ w a r m hr hd ht hm hrd=>wpIn_cond_false ((N8 hr ht).c hc) (a1 D ρ w a r m hr hd ht hm hrd)
theorem Yg.scope (a1:Yg K P n rd b ds ts h x ds1 ts1 h1):Yg K P n rd (.scope b) ds ts h x ds1 ts1 h1:=by
 intro D ρ w a r m hr hd ht hm hrd
 refine Zjl (fun l a w=>?_) (a1 D ρ w a r m hr hd ht hm hrd)
 rintro⟨e,_⟩
 cases x<;>cases e
theorem Yg.label {l:Nat}:Yg K P n rd (.label l) ds ts h .normal ds ts h :=
 fun D ρ w a r m hr hd ht hm hrd=>wpIn_label ⟨rfl,ρ,Aft.refl hr,ht,hm⟩
theorem Yg.skip:Yg K P n rd .skip ds ts h .normal ds ts h :=
 fun D ρ w a r m hr hd ht hm hrd=>wpIn_skip ⟨rfl,ρ,Aft.refl hr,ht,hm⟩
theorem Yg.exit {id:Nat}:Yg K P n rd (.exit id) ds ts h (.exit id) ds ts h :=
 fun D ρ w a r m hr hd ht hm hrd=>wpIn_exit ⟨rfl,ρ,Aft.refl hr,ht,hm⟩
theorem Yg.ret:Yg K P n rd .ret ds ts h .ret ds ts h :=
 fun D ρ w a r m hr hd ht hm hrd=>wpIn_ret ⟨rfl,ρ,Aft.refl hr,ht,hm⟩
theorem Yg.block {id:Nat} (a1:Yg K P n rd b ds ts h .normal ds1 ts1 h1):Yg K P n rd (.block id b) ds ts h .normal ds1 ts1 h1:=by
 intro D ρ w a r m hr hd ht hm hrd
 refine wpIn_block (wpIn_mono (a1 D ρ w a r m hr hd ht hm hrd) ?_)
 rintro e a1 w1 ⟨rfl,rest⟩
 exact⟨rfl,rest⟩
theorem Yg.Zkz {id:Nat} (a1:Yg K P n rd b ds ts h .ret ds1 ts1 h1):Yg K P n rd (.block id b) ds ts h .ret ds1 ts1 h1:=by
 intro D ρ w a r m hr hd ht hm hrd
 refine wpIn_block (wpIn_mono (a1 D ρ w a r m hr hd ht hm hrd) ?_)
 rintro e a1 w1 ⟨rfl,rest⟩
 exact⟨rfl,rest⟩
theorem Yg.Zhh {id:Nat} (a1:Yg K P n rd b ds ts h (.exit id) ds1 ts1 h1):Yg K P n rd (.block id b) ds ts h .normal ds1 ts1 h1:=by
 intro D ρ w a r m hr hd ht hm hrd
 refine wpIn_block (wpIn_mono (a1 D ρ w a r m hr hd ht hm hrd) ?_)
 rintro e a1 w1 ⟨rfl,rest⟩
 show Exit.inBlock id _ (.exit id) a1 w1
 simp only[Exit.inBlock,if_true]
 exact⟨rfl,rest⟩
theorem Zbp.ends {D:List Deferred} {ρ:Ren} {w:World} {e:Exit} {a:Act} {w':World} (hp:Zbp K D ρ h w n x ds1 ts1 h1 e a w'):e=.normal\/(∃ id,e=.exit id)\/e=.ret:=by
 obtain⟨rfl,_⟩:=hp
 cases x with
 | normal=>exact .inl rfl
 | exit id=>exact .inr (.inl ⟨id,rfl⟩)
 | ret=>exact .inr (.inr rfl)
theorem Yg.loop (a1:Yg K P n rd b ds ts h .normal ds1 ts1 h1) (a2:Yg K P n rd (.loop b) ds1 ts1 h1 x ds2 ts2 h2):Yg K P n rd (.loop b) ds ts h x ds2 ts2 h2:=by
 intro D ρ w a r m hr hd ht hm hrd
 refine Ty (fun _ _ _ hp=>Zbp.ends hp) (wpIn_mono (a1 D ρ w a r m hr hd ht hm hrd) ?_)
 rintro e a1 w1 ⟨rfl,ρ1,aft1,tr1,mk1⟩
 show (Code.loop b).wpIn (Wd r) m P _ a1 w1
 refine wpIn_mono (a2 D ρ1 w1 a1 r m aft1.rep (aft1.dom hd) tr1 mk1 (hrd.mono aft1.le)) ?_
 rintro e a2 w2 ⟨rfl,ρ2,aft2,tr2,mk2⟩
 exact⟨rfl,ρ2,aft1.trans aft2,tr2,mk2⟩
theorem Yg.Zqt (hx:x≠.normal) (a1:Yg K P n rd b ds ts h x ds1 ts1 h1):Yg K P n rd (.loop b) ds ts h x ds1 ts1 h1:=by
 intro D ρ w a r m hr hd ht hm hrd
 refine Ty (fun _ _ _ hp=>Zbp.ends hp) (wpIn_mono (a1 D ρ w a r m hr hd ht hm hrd) ?_)
 rintro e a1 w1 ⟨rfl,rest⟩
 cases x with
 | normal=>exact absurd rfl hx
 | exit id=>exact⟨rfl,rest⟩
 | ret=>exact⟨rfl,rest⟩
theorem Zx.body (F:Fits K P) (Hh:Hearts K P) {f:FuncId} {fn:Func} {body:Code} {args:List W} {v:V} (hc:K.clones.contains f=false) (hs:K.sorted.lookup f=none) (hf:K.funcs.get f=some fn) (hb:fn.body=some body) (hn:Nat.ble args.length fn.ntmps=true)
  (hbody:Yg K P fn.ntmps none body [] (Ug 0 args .nil) h x ds1 ts1 h1) (hl:leave K fn (some (.at x ds1 ts1 h1))=some (.val v h2)):Zx K P f args h v h2:=by
 classical
 let E:Task->Option Out:=fun t=>if t=.code body fn.ntmps none [] (Ug 0 args .nil) h then some (.at x ds1 ts1 h1) else none
 have S:Sound K P E:=by
  refine⟨fun f args h v h' he=>?_,fun c n rd ds ts h x ds' ts' h' he=>?_,fun t o he=>?_⟩
  ·simp only[E] at he
   rw[if_neg (by intro e; cases e)] at he
   cases he
  ·simp only[E] at he
   split at he
   ·rename_i e
    cases e
    cases he
    exact hbody
   ·cases he
  ·simp only[E] at he
   split at he
   ·rename_i e
    cases e
    cases he
    exact .inr ⟨_,_,_,_,_,_,_,_,_,_,rfl,rfl⟩
   ·cases he
 have T:=Mo F Hh S (Zaz F S)
 refine T.call f args h v h2 ?_
 show Ew K E f args h=_
 unfold Ew
 rw[hc,hs]
 show enter K E args h (K.funcs.get f)=_
 rw[hf]
 unfold enter
 simp only[hb,hn,cond_true,E,if_true]
 exact hl
end
open Go.RowKit
section
variable {K:Cfg} {P:Program} {n:Nat} {rd:Option Nat} {ds ds1:List Nat} {ts ts' ts1 ts2:Zv} {h h1 h2:H} {x:Ev.X} {c:Code}
theorem Yg.congr (e:∀ i,Zg ts i=Zg ts' i) (a1:Yg K P n rd c ds ts h x ds1 ts1 h1):Yg K P n rd c ds ts' h x ds1 ts1 h1 :=
 fun D ρ w a r m hr hd ht hm hrd=>a1 D ρ w a r m hr hd ⟨ht.1,fun i=>by rw[e i]; exact ht.2 i⟩ hm hrd
end
open Go.RowKit
section
variable {K:Cfg} {X:Kn} {E:Task->Option Out} {n k:Nat} {rd:Option Nat} {ds:List Nat} {ts:Zv} {h:H} {all:List Oper}
theorem Zp7 (d:Option Tmp) (op:Op) (t:TypeId) (p:String) (a:Array Edge):Zcw K E all n ts h ⟨d,op,t,p,a,none⟩=Qd n ts d (Ul K E ts h op):=rfl
theorem Zy (d:Tmp) (v:V) (hd:Nat.blt d n=true):Qd n ts (some d) (some (v,h))=some (ts.set d v,h):=by
 unfold Qd Tf
 simp only[hd,cond_true]
theorem Ztk (v:V):Qd n ts none (some (v,h))=some (ts,h):=rfl
theorem Zzt (x:Operand):Ul K E ts h (.move x)=Te h (Bi K ts x):=rfl
theorem Zsa (x:Operand):Ul K E ts h (.assign x)=Te h (Bi K ts x):=rfl
theorem Zw4 (op:BinOp) (t:TypeId) (x y:Operand) (u:TypeId):Ul K E ts h (.binOp op t x y u)=Gt h (binop K op t (evalW K ts x) (evalW K ts y)):=rfl
theorem Zzv (op:UnOp) (t:TypeId) (x:Operand):Ul K E ts h (.unOp op t x)=Gt h (Zro op (Z4 K ts x)):=rfl
theorem Zpf (s t:TypeId) (x:Operand):Ul K E ts h (.convert s t x)=Ziz K h (Nat.beq s t) (K.types.get s) (Z4 K ts x) (Ziy K h (K.types.get s) (K.types.get t) (Z4 K ts x) (Du h (K.types.get s) (K.types.get t) (Z4 K ts x))):=rfl
theorem Zq3 (b:Bool) (s:Option TI) (c:Option C) (r:V × H):Ziz K h b s c (some r)=some r:=rfl
theorem Zq2 (b:Bool) (s:Option TI) (c:Option C):Ziz K h b s c none=bif b then Zct K h s c else none:=rfl
theorem Zq1 (s t:Option TI) (c:Option C) (r:V × H):Ziy K h s t c (some r)=some r:=rfl
theorem Zq0 (s t:Option TI) (c:Option C):Ziy K h s t c none=Me K h s t c:=rfl
theorem Zzs (t:TypeId) (x:Operand):Ul K E ts h (.load t x)=Zey K h t (Z4 K ts x):=rfl
theorem Zxb (t:TypeId) (x y:Operand):Ul K E ts h (.store t x y)=Zbb K h t (Z4 K ts x) (evalW K ts y):=rfl
theorem Zkd (t:TypeId) (x i:Operand):Ul K E ts h (.indexAddr t x i)=Gt h (Bo K (K.types.get t) (Z4 K ts x) (Om (Z4 K ts i))):=rfl
theorem Zw7 (t:TypeId) (x i:Operand):Ul K E ts h (.index t x i)=L6 h (Na K (K.types.get t) (evalW K ts x) (Om (Z4 K ts i))):=rfl
theorem Zpe (b:Builtin) (args:Array Operand) (tys:Array TypeId):Ul K E ts h (.call ⟨.builtin b,args,tys⟩)=Gg K h b tys.toList (Gs K ts args.toList):=rfl
theorem Z47 (tys:List TypeId) (args:Option (List W)):Gg K h .len tys args=Zr K h .len tys args:=rfl
theorem Zsh (tys:List TypeId) (args:Option (List W)):Gg K h .append tys args=Zr K h .append tys args:=rfl
theorem Zsi (tys:List TypeId) (args:Option (List W)):Gg K h .delete tys args=Zr K h .delete tys args:=rfl
theorem Zxd (tys:List TypeId) (args:Option (List W)):Gg K h .clear tys args=Zr K h .clear tys args:=rfl
theorem Z49 (tys:List TypeId) (args:Option (List W)):Gg K h .min tys args=Zr K h .min tys args:=rfl
theorem Z48 (tys:List TypeId) (args:Option (List W)):Gg K h .max tys args=Zr K h .max tys args:=rfl
theorem Z0b (tys:List TypeId) (args:Option (List W)):Gg K h .copy tys args=Zdg K h tys args:=rfl
theorem Zzr (f:Operand) (args:Array Operand) (tys:Array TypeId):Ul K E ts h (.call ⟨.value f,args,tys⟩)=Zlu (Sa E h (Gs K ts args.toList) (Z4 K ts f)):=rfl
theorem Ya (t:Tmp):Bi K ts (.tmp t)=some (Zg ts t):=rfl
theorem Zp9 (v:Value):Bi K ts (.const v)=Zeb v:=rfl
theorem Zsv (f:FuncId):Bi K ts (.func f)=some (.w (.c (.fn f [] []))):=rfl
end
open Go.RowKit
def Yao (σ:Nat->Nat):Option (Nat × Nat)->Option (Nat × Nat)
 | some (n,o)=>some (σ n,o)
 | none=>none
def C.ren (σ:Nat->Nat):C->C
 | .ptr n o=>.ptr (σ n) o
 | .slice n off len sz=>.slice (σ n) off len sz
 | .map n=>.map (σ n)
 | .fn f a b=>.fn f (a.map (Yao σ)) (b.map (Yao σ))
 | .yield l=>.yield (σ l)
 | .bool b=>.bool b
 | .int k n=>.int k n
 | .str s=>.str s
 | .pnil=>.pnil
 | .snil=>.snil
 | .mnil=>.mnil
 | .nilFn=>.nilFn
def W.ren (σ:Nat->Nat):W->W
 | .c x=>.c (x.ren σ)
 | .g l=>.g (l.map (C.ren σ))
def V.ren (σ:Nat->Nat):V->V
 | .w x=>.w (x.ren σ)
 | .tup l=>.tup (l.map (W.ren σ))
def Ydc (σ:Nat->Nat) (p:W × W):W × W:=(p.1.ren σ,p.2.ren σ)
def O.ren (σ:Nat->Nat):O->O
 | .row sz els ro=>.row sz (els.map (List.map (C.ren σ))) ro
 | .map es=>.map (es.map (Ydc σ))
 | o=>o
def O.simple:O->Bool
 | .row _ _ _=>true
 | .map _=>true
 | _=>false
section
variable {ρ:Ren} {σ:Nat->Nat}
theorem R4 {α β γ:Type} {R:β->γ->Prop} {f:α->β}:∀ {l:List α} {m:List γ},Yq R (l.map f) m ↔ Yq (fun a c=>R (f a) c) l m
 | [],[]=>Iff.rfl
 | [],_ :: _=>Iff.rfl
 | _ :: _,[]=>Iff.rfl
 | _ :: _,_ :: _=>and_congr Iff.rfl R4
theorem Vp {α β:Type} {R R':α->β->Prop} (h:∀ a b,R a b ↔ R' a b) {l:List α} {m:List β}:Yq R l m ↔ Yq R' l m :=
 ⟨Yq.mono fun a b=>(h a b).1,Yq.mono fun a b=>(h a b).2⟩
theorem Zpw (p:Option (Nat × Nat)) (v:Value):Rh ρ (Yao σ p) v ↔ Rh (fun n=>ρ (σ n)) p v:=by cases p<;>exact Iff.rfl
theorem Zgo (c:C) (v:Value):Con ρ (c.ren σ) v ↔ Con (fun n=>ρ (σ n)) c v:=by
 cases c with
 | fn f a b =>
  simp only[C.ren,Con]
  refine exists_congr fun x=>exists_congr fun y=>and_congr Iff.rfl (and_congr ?_ ?_)
  ·exact R4.trans (Vp Zpw)
  ·exact R4.trans (Vp Zpw)
 | _=>exact Iff.rfl
theorem Qv (x:W) (v:Value):Jv ρ (x.ren σ) v ↔ Jv (fun n=>ρ (σ n)) x v:=by
 cases x with
 | c x=>exact Zgo x v
 | g l=>exact exists_congr fun cs=>and_congr Iff.rfl (R4.trans (Vp Zgo))
theorem Zpx (x:V) (v:Value):Gb ρ (x.ren σ) v ↔ Gb (fun n=>ρ (σ n)) x v:=by
 cases x with
 | w x=>exact Qv x v
 | tup l=>exact exists_congr fun cs=>and_congr Iff.rfl (R4.trans (Vp Qv))
theorem Zyo (sz:Nat) (els:List (List C)) (k:Nat):read1 sz (els.map (List.map (C.ren σ))) k=(read1 sz els k).map (C.ren σ):=by
 unfold read1
 rw[List.getElem?_map]
 cases els[k / sz]? with
 | none=>rfl
 | some e=>exact List.getElem?_map ..
theorem Zae {w:World} {o:O} (hs:o.simple=true) (l:Loc):Dv ρ w (o.ren σ) l ↔ Dv (fun n=>ρ (σ n)) w o l:=by
 cases o with
 | row sz els ro =>
  simp only[O.ren,Dv,Zyo]
  refine exists_congr fun cs=>exists_congr fun t=>exists_congr fun fr=>and_congr Iff.rfl (and_congr Iff.rfl (and_congr Iff.rfl (and_congr ?_ ?_)))
  ·simp
  ·constructor
   ·intro h k c hc
    obtain⟨v,h1,h2⟩:=h k (c.ren σ) (by rw[hc]; rfl)
    exact⟨v,h1,(Zgo c v).1 h2⟩
   ·intro h k c hc
    cases hr:read1 sz els k with
    | none=>rw[hr] at hc; cases hc
    | some c0 =>
     rw[hr] at hc
     cases hc
     obtain⟨v,h1,h2⟩:=h k c0 hr
     exact⟨v,h1,(Zgo c0 v).2 h2⟩
 | map es =>
  simp only[O.ren,Dv]
  refine exists_congr fun xs=>exists_congr fun cl=>and_congr Iff.rfl (and_congr ?_ Iff.rfl)
  exact R4.trans (Vp fun p e=>and_congr (Qv _ _) (Qv _ _))
 | _=>cases hs
theorem Zjd (o:O):(o.ren σ).ro=o.ro:=by cases o<;>rfl
end
section
variable {K:Cfg} {P:Program} {h0 h1 h h':H} {f:FuncId} {args:List W} {v:V} {σ:Nat->Nat}
structure Lies (K:Cfg) (σ:Nat->Nat) (h0 h:H):Prop where
 new:∀ n,h0.next<=n->σ n=h.next+(n - h0.next)
 old:∀ n,n<h0.next->σ n<h.next
 obj:∀ n o,h0.get n=some o->o.simple=true/\∃ o',h.get (σ n)=some o'/\(o'=o.ren σ\/∃ sz els,o=.row sz els true/\o'=(O.row sz els false).ren σ)
 inj:∀ n n' o o',h0.get n=some o->h0.get n'=some o'->n≠n'->σ n≠σ n'
 glob:∀ g n,K.globs.get g=some n->σ n=n
structure Lain (σ:Nat->Nat) (h0 h1 h h':H):Prop where
 next:h'.next=h.next+(h1.next - h0.next)
 obj:∀ m o',h'.get m=some o'->(h.get m=some o'/\∀ n o,h0.get n=some o->σ n=m->o.ro=true)\/∃ n o,h1.get n=some o/\o.ro=false/\o.simple=true/\σ n=m/\o'=o.ren σ
theorem Lies.rep {ρ:Ren} {w:World} (L:Lies K σ h0 h) (hr:Rep K ρ h w):Rep K (fun n=>ρ (σ n)) h0 w:=by
 refine⟨fun g n hg=>?_,fun n o ho=>?_,fun n n' o o' l l' hne ho ho' hl hl'=>?_⟩
 ·obtain⟨r,e⟩:=hr.glob g n hg
  exact⟨r,by rw[L.glob g n hg]; exact e⟩
 ·obtain⟨hs,o',ho',e⟩:=L.obj n o ho
  obtain⟨l,hl,hor⟩:=hr.obj _ o' ho'
  refine⟨l,hl,(Zae hs l).1 ?_⟩
  rcases e with rfl|⟨sz,els,rfl,rfl⟩
  ·exact hor
  ·obtain⟨cs,t,fr,e1,e2,_,e4⟩:=hor
   exact⟨cs,t,fr,e1,e2,(by intro h; cases h),e4⟩
 ·obtain⟨_,x,hx,e1⟩:=L.obj n o ho
  obtain⟨_,x',hx',e2⟩:=L.obj n' o' ho'
  have r1:∀ (o x:O),o.ro=false->(x=o.ren σ\/∃ sz els,o=.row sz els true/\x=(O.row sz els false).ren σ)->x.ro=false:=fun o x q e=>by
   rcases e with rfl|⟨_,_,rfl,_⟩
   ·rw[Zjd]; exact q
   ·cases q
  exact fun hq=>hr.inj (σ n) (σ n') x x' l l' (L.inj n n' o o' ho ho' hne) hx hx' hl hl' (hq.imp (fun q=>r1 _ _ q e1) (fun q=>r1 _ _ q e2))
theorem Zx.frame (C0:Zx K P f args h0 v h1) (L:Lies K σ h0 h) (B:Lain σ h0 h1 h h'):Zx K P f (args.map (W.ren σ)) h (v.ren σ) h':=by
 refine⟨C0.1,fun ρ w vals r m hr hd ha=>?_⟩
 have hd0:Dom (fun n=>ρ (σ n)) h0.next:=fun n hn=>by
  show ρ (σ n)=none
  rw[L.new n hn]
  exact hd _ oM
 refine (C0.2 (fun n=>ρ (σ n)) w vals r m (L.rep hr) hd0 ((Vp Qv).1 (R4.1 ha))).mono ?_
 rintro e w' ⟨ρ0,val,rfl,aft,hv⟩
 let ρ':Ren:=fun m=>if m<h.next then ρ m else ρ0 (h0.next+(m - h.next))
 have hρ:(fun n=>ρ' (σ n))=ρ0:=by
  funext n
  by_cases hn:n<h0.next
  ·have h1:=L.old n hn
   have e:ρ' (σ n)=ρ (σ n):=if_pos h1
   show ρ' (σ n)=ρ0 n
   rw[e]
   cases hx:ρ0 n with
   | none =>
    cases hy:ρ (σ n) with
    | none=>rfl
    | some l =>
     have:=aft.le n l hy
     rw[hx] at this
     cases this
   | some l =>
    rcases aft.new n l hx with hy|hy
    ·exact hy
    ·omega
  ·have e1:=L.new n oM
   show ρ' (σ n)=ρ0 n
   have e:ρ' (σ n)=ρ0 (h0.next+(σ n - h.next)):=if_neg (by rw[e1]; omega)
   rw[e]
   congr 1
   omega
 have hle:Ren.le ρ ρ':=fun n l hl=>by
  have:n<h.next:=by
   rcases Nat.lt_or_ge n h.next with h1|h1
   ·exact h1
   ·rw[hd n h1] at hl; cases hl
  show (if n<h.next then ρ n else _)=some l
  rw[if_pos this]
  exact hl
 have hup:=aft.up
 have mine0:∀ k,Mine (fun n=>ρ (σ n)) h0 k->Mine ρ h k:=by
  rintro k ⟨n,o,l,ho,hro,hl,hk⟩
  obtain⟨_,o',ho',e⟩:=L.obj n o ho
  rcases e with rfl|⟨sz,els,rfl,rfl⟩
  ·exact⟨σ n,_,l,ho',by rw[Zjd]; exact hro,hl,hk⟩
  ·cases hro
 have away:∀ m o l,h.get m=some o->(∀ n o,h0.get n=some o->σ n=m->o.ro=true)->ρ m=some l->¬ Mine (fun n=>ρ (σ n)) h0 l.blk:=by
  rintro m o l ho hn hl ⟨n,o0,l0,ho0,hro,hl0,hk⟩
  by_cases e:σ n=m
  ·rw[hn n o0 ho0 e] at hro
   cases hro
  ·obtain⟨_,o',ho',e'⟩:=L.obj n o0 ho0
   have r1:o'.ro=false:=by
    rcases e' with rfl|⟨_,_,rfl,_⟩
    ·rw[Zjd]; exact hro
    ·cases hro
   exact hr.inj (σ n) m o' o l0 l e ho' ho hl0 hl (.inl r1) hk
 have mine1:∀ n o l,h1.get n=some o->o.ro=false->ρ' (σ n)=some l->Mine ρ0 h1 l.blk:=fun n o l ho hro hl=>⟨n,o,l,ho,hro,by rw[<-hρ]; exact hl,rfl⟩
 refine⟨ρ',val,rfl,⟨hle,fun m l hm=>?_,⟨fun g n hg=>?_,fun m o ho=>?_,fun m m' o o' l l' hne ho ho' hl hl'=>?_⟩,⟨aft.fr.os,aft.fr.tape,aft.fr.output,aft.fr.size,fun k hk hn=>aft.fr.keep k hk (fun h=>hn (mine0 k h)),fun k hk=>?_,fun m o ho hro=>?_⟩,by rw[B.next]; omega⟩,?_⟩
 ·
  by_cases h1:m<h.next
  ·have:ρ' m=ρ m:=if_pos h1
   exact .inl (this ▸ hm)
  ·have e:ρ' m=ρ0 (h0.next+(m - h.next)):=if_neg h1
   rw[e] at hm
   rcases aft.new _ _ hm with hy|hy
   ·rw[hd0 _ oM] at hy; cases hy
   ·right
    rw[B.next]
    omega
 ·obtain⟨r,e⟩:=hr.glob g n hg
  exact⟨r,hle _ _ e⟩
 ·rcases B.obj m o ho with ⟨ho1,hn⟩|⟨n,o0,ho1,hro,hs,rfl,rfl⟩
  ·obtain⟨l,hl,hor⟩:=hr.obj m o ho1
   refine⟨l,hle _ _ hl,(hor.congr ?_).mono hle⟩
   exact aft.fr.keep l.blk hor.lt (away m o l ho1 hn hl)
  ·obtain⟨l,hl,hor⟩:=aft.rep.obj n o0 ho1
   rw[<-hρ] at hl hor
   exact⟨l,hl,(Zae hs l).2 hor⟩
 ·rcases B.obj m o ho with ⟨ho1,hn⟩|⟨n,o0,ho1,hro,hs,rfl,rfl⟩
  ·obtain⟨lm,hlm,hor⟩:=hr.obj m o ho1
   have e:=hle _ _ hlm
   rw[hl] at e
   cases e
   rcases B.obj m' o' ho' with ⟨ho2,hn'⟩|⟨n',o0',ho2,hro',hs',rfl,rfl⟩
   ·obtain⟨lm',hlm',hor'⟩:=hr.obj m' o' ho2
    have e:=hle _ _ hlm'
    rw[hl'] at e
    cases e
    exact hr.inj m m' o o' l l' hne ho1 ho2 hlm hlm'
   ·intro _ e
    rcases aft.fr.fresh l'.blk (mine1 n' o0' l' ho2 hro' hl') with h2|h2
    ·have:=hor.lt; omega
    ·exact away m o l ho1 hn hlm (e ▸ h2)
  ·rcases B.obj m' o' ho' with ⟨ho2,hn'⟩|⟨n',o0',ho2,hro',hs',rfl,rfl⟩
   ·obtain⟨lm',hlm',hor'⟩:=hr.obj m' o' ho2
    have e:=hle _ _ hlm'
    rw[hl'] at e
    cases e
    intro _ e
    rcases aft.fr.fresh l.blk (mine1 n o0 l ho1 hro hl) with h2|h2
    ·have:=hor'.lt; omega
    ·exact away m' o' l' ho2 hn' hlm' (e ▸ h2)
   ·refine fun _=>aft.rep.inj n n' o0 o0' l l' (fun e=>hne (by rw[e])) ho1 ho2 ?_ ?_ (.inl hro)
    ·rw[<-hρ]; exact hl
    ·rw[<-hρ]; exact hl'
 ·obtain⟨m,o,l,ho,hro,hl,hk⟩:=hk
  rcases B.obj m o ho with ⟨ho1,hn⟩|⟨n,o0,ho1,hro1,hs,rfl,rfl⟩
  ·obtain⟨lm,hlm,_⟩:=hr.obj m o ho1
   have e:=hle _ _ hlm
   rw[hl] at e
   cases e
   exact .inr ⟨m,o,l,ho1,hro,hlm,hk⟩
  ·have h2:=mine1 n o0 l ho1 hro1 hl
   rw[hk] at h2
   rcases aft.fr.fresh k h2 with h3|h3
   ·exact .inl h3
   ·exact .inr (mine0 k h3)
 ·rcases B.obj m o ho with ⟨ho1,_⟩|⟨n,o0,ho1,hro1,hs,rfl,rfl⟩
  ·exact ho1
  ·rw[Zjd,hro1] at hro; cases hro
 ·rw[Zpx,hρ]
  exact hv
end
open Go.RowKit
structure Goes (K:Cfg) (P:Program) (n:Nat) (rd:Option Nat) (c:Code) (ds:List Nat) (ts:Zv) (h:H) (Q:X->List Nat->Zv->H->Prop):Prop where
 ex:∃ x ds' ts' h',Yg K P n rd c ds ts h x ds' ts' h'/\Q x ds' ts' h'
def then2 (p:Option (Zv × H)) (Q:Zv->H->Prop):Prop:=match p with
 | some p=>Q p.1 p.2
 | none=>False
section
variable {K:Cfg} {P:Program} {n:Nat} {rd:Option Nat} {ds:List Nat} {ts:Zv} {h:H} {Q R:X->List Nat->Zv->H->Prop} {a b c:Code} {id:Nat}
theorem Goes.mono (g:Goes K P n rd c ds ts h Q) (hq:∀ x ds ts h,Q x ds ts h->R x ds ts h):Goes K P n rd c ds ts h R:=by
 obtain⟨x,ds',ts',h',g1,g2⟩:=g
 exact⟨x,ds',ts',h',g1,hq _ _ _ _ g2⟩
theorem Z6 (g:Goes K P n rd a ds ts h fun x ds ts h=>match x with
  | .normal=>Goes K P n rd b ds ts h Q
  | x=>Q x ds ts h):Goes K P n rd (.seq a b) ds ts h Q:=by
 obtain⟨x,ds',ts',h',g1,g2⟩:=g
 cases x with
 | normal =>
  obtain⟨y,ds2,ts2,h2,g3,g4⟩:=g2
  exact⟨y,ds2,ts2,h2,Yg.seq g1 g3,g4⟩
 | exit id=>exact⟨_,_,_,_,Yg.Zwm (by intro e; cases e) g1,g2⟩
 | ret=>exact⟨_,_,_,_,Yg.Zwm (by intro e; cases e) g1,g2⟩
theorem O9 (g:Goes K P n rd b ds ts h fun x ds ts h=>match x with
  | .normal=>Q .normal ds ts h
  | .ret=>Q .ret ds ts h
  | .exit id'=>if id'=id then Q .normal ds ts h else False):Goes K P n rd (.block id b) ds ts h Q:=by
 obtain⟨x,ds',ts',h',g1,g2⟩:=g
 cases x with
 | normal=>exact⟨_,_,_,_,Yg.block g1,g2⟩
 | ret=>exact⟨_,_,_,_,Yg.Zkz g1,g2⟩
 | exit id' =>
  simp only at g2
  split at g2
  ·rename_i e
   subst e
   exact⟨_,_,_,_,Yg.Zhh g1,g2⟩
  ·exact g2.elim
theorem E9 (g:Goes K P n rd b ds ts h fun x ds ts h=>match x with
  | .normal=>Goes K P n rd (.loop b) ds ts h Q
  | x=>Q x ds ts h):Goes K P n rd (.loop b) ds ts h Q:=by
 obtain⟨x,ds',ts',h',g1,g2⟩:=g
 cases x with
 | normal =>
  obtain⟨y,ds2,ts2,h2,g3,g4⟩:=g2
  exact⟨y,ds2,ts2,h2,Yg.loop g1 g3,g4⟩
 | exit id=>exact⟨_,_,_,_,Yg.Zqt (by intro e; cases e) g1,g2⟩
 | ret=>exact⟨_,_,_,_,Yg.Zqt (by intro e; cases e) g1,g2⟩
theorem Goes.cond {o:Operand} {v:Bool} (hc:Z4 K ts o=some (.bool v)) (g:if v=true then Goes K P n rd a ds ts h Q else Goes K P n rd b ds ts h Q):Goes K P n rd (.cond o a b) ds ts h Q:=by
 cases v with
 | true =>
  obtain⟨x,ds',ts',h',g1,g2⟩:=g
  exact⟨_,_,_,_,Yg.cond_true hc g1,g2⟩
 | false =>
  simp only[Bool.false_eq_true,if_false] at g
  obtain⟨x,ds',ts',h',g1,g2⟩:=g
  exact⟨_,_,_,_,Yg.cond_false hc g1,g2⟩
theorem Goes.Yb3 {o:Operand} (hc:Z4 K ts o=some (.bool true)) (g:Goes K P n rd a ds ts h Q):Goes K P n rd (.cond o a b) ds ts h Q:=Goes.cond hc g
theorem Goes.Yb2 {o:Operand} (hc:Z4 K ts o=some (.bool false)) (g:Goes K P n rd b ds ts h Q):Goes K P n rd (.cond o a b) ds ts h Q:=Goes.cond hc g
theorem Goes.scope (g:Goes K P n rd b ds ts h Q):Goes K P n rd (.scope b) ds ts h Q:=by
 obtain⟨x,ds',ts',h',g1,g2⟩:=g
 exact⟨_,_,_,_,Yg.scope g1,g2⟩
theorem Goes.label {l:Nat} (q:Q .normal ds ts h):Goes K P n rd (.label l) ds ts h Q:=⟨_,_,_,_,Yg.label,q⟩
theorem Yx (q:Q .normal ds ts h):Goes K P n rd .skip ds ts h Q:=⟨_,_,_,_,Yg.skip,q⟩
theorem Ea (q:Q (.exit id) ds ts h):Goes K P n rd (.exit id) ds ts h Q:=⟨_,_,_,_,Yg.exit,q⟩
theorem Yc (q:Q .ret ds ts h):Goes K P n rd .ret ds ts h Q:=⟨_,_,_,_,Yg.ret,q⟩
abbrev GoS (K:Cfg) (P:Program) (n:Nat) (rd:Option Nat) (c:Code) (ds:List Nat) (ts:Zv) (h:H) (Q:X->List Nat->Zv->H->Prop):Prop:=match c with
 | .seq a b=>Goes K P n rd a ds ts h fun x ds ts h=>match x with
  | .normal=>Goes K P n rd b ds ts h Q
  | x=>Q x ds ts h
 | .block id b=>Goes K P n rd b ds ts h fun x ds ts h=>match x with
  | .normal=>Q .normal ds ts h
  | .ret=>Q .ret ds ts h
  | .exit id'=>if id'=id then Q .normal ds ts h else False
 | .loop b=>Goes K P n rd b ds ts h fun x ds ts h=>match x with
  | .normal=>Goes K P n rd (.loop b) ds ts h Q
  | x=>Q x ds ts h
 | .skip=>Q .normal ds ts h
 | .exit id=>Q (.exit id) ds ts h
 | .ret=>Q .ret ds ts h
 | _=>False
theorem gS {K:Cfg} {P:Program} {n:Nat} {rd:Option Nat} {c:Code} {ds:List Nat} {ts:Zv} {h:H} {Q:X->List Nat->Zv->H->Prop} (g:GoS K P n rd c ds ts h Q):Goes K P n rd c ds ts h Q:=by
 cases c with
 | seq a b=>exact Z6 g
 | block id b=>exact O9 g
 | loop b=>exact E9 g
 | skip=>exact Yx g
 | exit id=>exact Ea g
 | ret=>exact Yc g
 | _=>exact g.elim
theorem Goes.ok {x:X} {ds':List Nat} {ts':Zv} {h':H} (g:Yg K P n rd c ds ts h x ds' ts' h') (q:Q x ds' ts' h'):Goes K P n rd c ds ts h Q:=⟨_,_,_,_,g,q⟩
theorem Goes.congr {ts':Zv} (e:∀ i,Zg ts i=Zg ts' i) (g:Goes K P n rd c ds ts h Q):Goes K P n rd c ds ts' h Q:=by
 obtain⟨x,ds',ts2,h',g1,g2⟩:=g
 exact⟨x,ds',ts2,h',Yg.congr e g1,g2⟩
def E0:Task->Option Out:=fun _=>none
theorem Za:Sound K P E0:=⟨fun _ _ _ _ _ h=>(by cases h),fun _ _ _ _ _ _ _ _ _ _ h=>(by cases h),fun _ _ h=>(by cases h)⟩
open Classical in
noncomputable def E1 (E:Task->Option Out) (f:FuncId) (args:List W) (h:H) (v:V) (h':H):Task->Option Out:=fun t=>if t=.call f args h then some (.val v h') else E t
theorem Zj {E:Task->Option Out} (S:Sound K P E) {f:FuncId} {args:List W} {v:V} {h':H} (c:Zx K P f args h v h'):Sound K P (E1 E f args h v h'):=by
 refine⟨fun g us k u k' he=>?_,fun c n rd ds ts h x ds' ts' h' he=>?_,fun t o he=>?_⟩
 ·simp only[E1] at he
  split at he
  ·rename_i e
   cases e
   cases he
   exact c
  ·exact S.call g us k u k' he
 ·simp only[E1] at he
  split at he
  ·rename_i e
   cases e
  ·exact S.code c n rd ds ts h x ds' ts' h' he
 ·simp only[E1] at he
  split at he
  ·rename_i e
   cases e
   cases he
   exact .inl ⟨_,_,_,_,_,rfl,rfl⟩
  ·exact S.shape t o he
theorem Z7 (E:Task->Option Out) (f:FuncId) (args:List W) (h:H) (v:V) (h':H):E1 E f args h v h' (.call f args h)=some (.val v h'):=by simp [E1]
theorem Goes.ops (F:Fits K P) (Hh:Hearts K P) {E:Task->Option Out} (S:Sound K P E) {ops:Array Oper} (g:then2 (Fw K E ops.toList n ops.toList ts h) fun ts h=>Q .normal ds ts h):Goes K P n rd (.region id ops false) ds ts h Q:=by
 cases e:Fw K E ops.toList n ops.toList ts h with
 | none=>rw[e] at g; exact g.elim
 | some p =>
  obtain⟨ts',h'⟩:=p
  rw[e] at g
  have T:=Mo F Hh S (Zaz F S)
  refine⟨.normal,ds,ts',h',T.code (.region id ops false) n rd ds ts h .normal ds ts' h' ?_,g⟩
  show Zi0 ds (Fw K E ops.toList n ops.toList ts h)=_
  rw[e]
  rfl
theorem Goes.drawn (F:Fits K P) (Hh:Hearts K P) {E:Task->Option Out} (S:Sound K P E) {ops:Array Oper} (g:then2 (X7 K E ops.toList n ts h) fun ts h=>Q .normal ds ts h):Goes K P n rd (.region id ops true) ds ts h Q:=by
 cases e:X7 K E ops.toList n ts h with
 | none=>rw[e] at g; exact g.elim
 | some p =>
  obtain⟨ts',h'⟩:=p
  rw[e] at g
  have T:=Mo F Hh S (Zaz F S)
  refine⟨.normal,ds,ts',h',T.code (.region id ops true) n rd ds ts h .normal ds ts' h' ?_,g⟩
  show Zi0 ds (X7 K E ops.toList n ts h)=_
  rw[e]
  rfl
theorem Goes.ev (F:Fits K P) (Hh:Hearts K P) {Y:Kn} (hX:Zch K P Y) {k:Nat} {x:X} {ds':List Nat} {ts':Zv} {h':H} (e:evX K Y k (.code c n rd ds ts h)=some (.at x ds' ts' h')) (q:Q x ds' ts' h'):Goes K P n rd c ds ts h Q :=
 ⟨_,_,_,_,Yg.ev F Hh hX e,q⟩
theorem Zx.goes (F:Fits K P) (Hh:Hearts K P) {f:FuncId} {fn:Func} {body:Code} {args:List W} {v:V} {h':H} (hc:K.clones.contains f=false) (hs:K.sorted.lookup f=none) (hf:K.funcs.get f=some fn) (hb:fn.body=some body) (hn:Nat.ble args.length fn.ntmps=true)
  (g:Goes K P fn.ntmps none body [] (Ug 0 args .nil) h fun x ds ts h1=>leave K fn (some (.at x ds ts h1))=some (.val v h')):Zx K P f args h v h':=by
 obtain⟨x,ds',ts',h1,g1,g2⟩:=g
 exact Zx.body F Hh hc hs hf hb hn g1 g2
theorem Y9 {s k d:Nat} {v:V} (hs:s<=k) (hd:k<d):Zg (ts.set d v) s=Zg ts s:=by rw[Zo,if_neg oM]
theorem U2 (args:List W) (j:Nat):Zg (Ug 0 args .nil) j=match args[j]? with
  | some v=>.w v
  | none=>undef:=by
 rw[Qp]
 by_cases e:j<args.length
 ·rw[if_pos ⟨Nat.zero_le _,oM⟩]; simp only[Nat.sub_zero]; rfl
 ·rw[if_neg oM,List.getElem?_eq_none oM]; rfl
theorem Goes.ops2 (F:Fits K P) (Hh:Hearts K P) {E:Task->Option Out} (S:Sound K P E) {ops:Array Oper} {ts':Zv} {h':H} (g:Fw K E ops.toList n ops.toList ts h=some (ts',h')) (q:Q .normal ds ts' h'):Goes K P n rd (.region id ops false) ds ts h Q :=
 Goes.ops F Hh S (by rw[g]; exact q)
theorem Zx.tidy {f:FuncId} {args:List W} {v:V} {h':H} (hc:Oz P f) (c:(∀ n o,h.get n=some o->n<h.next)->Zx K P f args h v h'):Zx K P f args h v h':=by
 by_cases e:∀ n o,h.get n=some o->n<h.next
 ·exact c e
 ·refine⟨hc,fun ρ w vals r m hr hd ha=>(e fun n o ho=>?_).elim⟩
  obtain⟨l,hl,_⟩:=hr.obj n o ho
  rcases Nat.lt_or_ge n h.next with h1|h1
  ·exact h1
  ·rw[hd n h1] at hl; cases hl
end
section
variable {K:Cfg} {E:Task->Option Out} {n:Nat} {ts:Zv} {h:H} {all:List Oper}
theorem Zp6 (d:Option Tmp) (op:Op) (t:TypeId) (p:String) (a:Array Edge) (j:Nat) (b:Bool):Zcw K E all n ts h ⟨d,op,t,p,a,some (j,b)⟩=bif D9 all ts (some (j,b)) then Qd n ts d (Ul K E ts h op) else Qd n ts d (some (undef,h)):=rfl
theorem Zzu (c a b:Operand):Ul K E ts h (.pick c a b)=Te h (Zag K ts a b (Z4 K ts c)):=rfl
theorem Zzq (t:TypeId):Ul K E ts h (.alloc t)=Wo h (K.types.get t):=rfl
theorem Z4x (t:TypeId) (x:Operand):Ul K E ts h (.box t x)=Yt h (evalW K ts x):=rfl
theorem Zw5 (t:TypeId) (ps:Array (Nat × Operand)):Ul K E ts h (.build t ps)=L6 h (Yr K t (Un K ts ps.toList)):=rfl
theorem Zg8 (t:TypeId) (len:Nat) (ps:Array (Nat × Operand)):Ul K E ts h (.buildSlice t len ps)=Js h len (J9 K t) (Un K ts ps.toList):=rfl
theorem Zms (x:Operand):Ul K E ts h (.nilCheck x)=Gt h (El (Z4 K ts x)):=rfl
theorem Zke (t:TypeId) (l c:Operand):Ul K E ts h (.makeSlice t l c)=U7 h (J9 K t) (Om (Z4 K ts l)) (Om (Z4 K ts c)):=rfl
theorem Zkc (t:TypeId) (x:Operand) (f:Nat):Ul K E ts h (.fieldAddr t x f)=Gt h (Bn (Z4 K ts x) (Zw K t f)):=rfl
theorem Zw6 (t:TypeId) (x:Operand) (f:Nat):Ul K E ts h (.field t x f)=L6 h (Tq (evalW K ts x) (Zw K t f)):=rfl
theorem Zpg (x:Operand) (i:Nat):Ul K E ts h (.extract x i)=L6 h (Fx i (Bi K ts x)):=rfl
theorem Zsb (t:TypeId) (x k:Operand) (ok:Bool):Ul K E ts h (.lookup t x k ok)=Xb K h (Ej K t) (Z4 K ts x) (evalW K ts k) ok:=rfl
theorem Zkf (t:TypeId) (m k v:Operand):Ul K E ts h (.mapUpdate t m k v)=Fy K h (Ej K t) (Z4 K ts m) (evalW K ts k) (evalW K ts v):=rfl
theorem Zzn (k:IntKind) (z:Int):Zeb (.int k z)=some (.w (.c (.int k z))):=rfl
theorem Zwz (b:Bool):Zeb (.bool b)=some (.w (.c (.bool b))):=rfl
theorem Zx5 (k:IntKind) (i:Nat):Om (some (.int k (i:Int)))=some i:=rfl
theorem Zx4 (k:IntKind) (i:Nat):Om (some (.int k (OfNat.ofNat i:Int)))=some i:=rfl
theorem Zvn (x:C):(W.c x).cells=[x]:=rfl
theorem Zvo (l:List C):(W.g l).cells=l:=rfl
theorem Zal {l:List C} (h:0<l.length):Zm l.length [l] 0 l.length=some l:=by
 have e:Nat.beq l.length 0=false:=by
  cases hx:Nat.beq l.length 0 with
  | false=>rfl
  | true=>have:=bQ hx; omega
 simp only[Zm,Nat.zero_div,Nat.zero_mod,List.getElem?_cons_zero,List.drop_zero,Nat.zero_add,e,cond_false]
 rw[List.take_of_length_le (Nat.le_refl _),Nat.ble_eq_true_of_le (Nat.le_refl _)]
 rfl
theorem Wz {l l':List C} (h:0<l'.length) (e:l.length=l'.length):Z0 l'.length [l] 0 l'=some [l']:=by
 match l',h with
 | [c],_ =>
  match l,e with
  | [d],_=>simp [Z0]; rfl
 | a :: b :: r,_ =>
  simp only[Z0,Nat.zero_div,Nat.zero_mod,List.getElem?_cons_zero,Nat.zero_add,List.take_zero,List.nil_append]
  rw[Nat.ble_eq_true_of_le oM,List.drop_of_length_le oM]
  simp
theorem Er (fn:Func) (ds:List Nat):leave K fn (some (.at .ret ds ts h))=finish K fn ts (Jg ds h):=rfl
theorem Znu (fn:Func) (ds:List Nat):leave K fn (some (.at .normal ds ts h))=finish K fn ts (Jg ds h):=rfl
theorem nbeq10:Nat.beq 1 0=false:=rfl
theorem Ybt:(true == true)=true:=rfl
theorem Ybs:(true == false)=false:=rfl
theorem Ybr:(false == true)=false:=rfl
theorem Ybq:(false == false)=true:=rfl
theorem Yy:decide True=true:=rfl
theorem Yo:decide False=false:=rfl
theorem Gv {a b:Nat} (h:a<b):Nat.blt a b=true:=by simpa [Nat.blt_eq] using h
theorem wrap64 {z:Int} (h : -9223372036854775808<=z) (h':z<9223372036854775808):Jm .i64 z=.int .i64 z:=by
 unfold Jm IntKind.wrap
 congr 1
 show (if (true&&decide (z % 18446744073709551616 >= 9223372036854775808))=true then z % 18446744073709551616 - 18446744073709551616 else z % 18446744073709551616)=z
 rw[Bool.true_and]
 by_cases e:z % 18446744073709551616 >= 9223372036854775808
 ·rw[decide_eq_true e,if_pos rfl]; omega
 ·rw[decide_eq_false e,if_neg (by simp)]; omega
theorem Z3h {z:Int}:Jm .u8 z=.int .u8 (z % 256):=by
 unfold Jm IntKind.wrap
 congr 1
end
def J8 (fn:Func):Code:=match fn.body with
 | some c=>c
 | none=>.skip
def part (k:Nat) (c:Code):Code:=match k,c with
 | 0,.seq a _=>a
 | 1,.seq _ b=>b
 | 2,.block _ b=>b
 | 2,.loop b=>b
 | 2,.scope b=>b
 | 3,.cond _ a _=>a
 | 4,.cond _ _ b=>b
 | 5,.rangeFunc _ _ a _=>a
 | 6,.rangeFunc _ _ _ b=>b
 | _,_=>.skip
theorem part0 (a b:Code):part 0 (.seq a b)=a:=rfl
theorem part1 (a b:Code):part 1 (.seq a b)=b:=rfl
theorem part2 (i:Nat) (b:Code):part 2 (.block i b)=b:=rfl
theorem Yag (b:Code):part 2 (.loop b)=b:=rfl
theorem Yah (b:Code):part 2 (.scope b)=b:=rfl
theorem part3 (o:Operand) (a b:Code):part 3 (.cond o a b)=a:=rfl
theorem part4 (o:Operand) (a b:Code):part 4 (.cond o a b)=b:=rfl
theorem part5 (g:Operand) (ps:Array Tmp) (a b:Code):part 5 (.rangeFunc g ps a b)=a:=rfl
theorem part6 (g:Operand) (ps:Array Tmp) (a b:Code):part 6 (.rangeFunc g ps a b)=b:=rfl
def piece:List Nat->Code->Code
 | [],c=>c
 | k :: l,c=>piece l (part k c)
def Z61:Code->Array Oper
 | .region _ ops _=>ops
 | _=>#[]
open Go.RowKit
section
variable {K:Cfg} {P:Program} {h h1 h':H} {f:FuncId} {args:List W} {v v':V} {τ:Nat->Nat}
theorem Zx.Zdu (c:Zx K P f args h v h1) (hold:∀ m,m<h.next->τ m=m) (hbig:∀ m,h'.next<=m->h1.next<=τ m) (hup:h.next<=h'.next) (hv:v'.ren τ=v)
  (hobj:∀ m o,h'.get m=some o->(h.get m=some o/\h1.get m=some o)\/(o.simple=true/\o.ro=false/\h1.get (τ m)=some (o.ren τ)))
  (hinj:∀ m m' o o',h'.get m=some o->h'.get m'=some o'->m≠m'->τ m≠τ m'):Zx K P f args h v' h':=by
 refine⟨c.1,fun ρ w vals r m hr hd ha=>(c.2 ρ w vals r m hr hd ha).mono ?_⟩
 rintro e w' ⟨ρ',val,rfl,aft,hcon⟩
 have hd1:=aft.dom hd
 have lt:∀ m o,h.get m=some o->m<h.next:=fun m o ho=>by
  obtain⟨l,hl,_⟩:=hr.obj m o ho
  rcases Nat.lt_or_ge m h.next with h1|h1
  ·exact h1
  ·rw[hd m h1] at hl; cases hl
 have at1:∀ m o,h'.get m=some o->∃ o1,h1.get (τ m)=some o1/\o1.ro=o.ro:=fun m o ho=>by
  rcases hobj m o ho with ⟨a,b⟩|⟨_,_,b⟩
  ·exact⟨o,by rw[hold m (lt m o a)]; exact b,rfl⟩
  ·exact⟨_,b,Zjd o⟩
 have hle:Ren.le ρ (fun n=>ρ' (τ n)):=fun n l hl=>by
  have:n<h.next:=by
   rcases Nat.lt_or_ge n h.next with h1|h1
   ·exact h1
   ·rw[hd n h1] at hl; cases hl
  show ρ' (τ n)=some l
  rw[hold n this]
  exact aft.le n l hl
 refine⟨fun n=>ρ' (τ n),val,rfl,⟨hle,fun m l hm=>?_,⟨fun g n hg=>?_,fun m o ho=>?_,fun m m' o o' l l' hne ho ho' hl hl'=>?_⟩,⟨aft.fr.os,aft.fr.tape,aft.fr.output,aft.fr.size,aft.fr.keep,fun k hk=>?_,fun m o ho hro=>?_⟩,hup⟩,?_⟩
 ·have hm':ρ' (τ m)=some l:=hm
  rcases Nat.lt_or_ge m h.next with h2|h2
  ·rw[hold m h2] at hm'
   rcases aft.new m l hm' with h3|h3
   ·exact .inl h3
   ·omega
  ·rcases Nat.lt_or_ge m h'.next with h3|h3
   ·exact .inr ⟨h2,h3⟩
   ·rw[hd1 _ (hbig m h3)] at hm'; cases hm'
 ·obtain⟨r,e⟩:=hr.glob g n hg
  exact⟨r,hle _ _ e⟩
 ·rcases hobj m o ho with ⟨a,b⟩|⟨hs,_,b⟩
  ·obtain⟨l,hl,hor⟩:=hr.obj m o a
   obtain⟨l1,hl1,hor1⟩:=aft.rep.obj m o b
   have e:ρ' (τ m)=some l1:=by rw[hold m (lt m o a)]; exact hl1
   refine⟨l1,e,(hor1.cut (hor.sc hd)).mono fun n l hn=>?_⟩
   unfold Ren.cut at hn
   split at hn
   ·rename_i h2
    show ρ' (τ n)=some l
    rw[hold n h2]
    exact hn
   ·cases hn
  ·obtain⟨l,hl,hor⟩:=aft.rep.obj _ _ b
   exact⟨l,hl,(Zae hs l).1 hor⟩
 ·obtain⟨o1,ho1,hro1⟩:=at1 m o ho
  obtain⟨o1',ho1',hro2⟩:=at1 m' o' ho'
  exact fun hq=>aft.rep.inj (τ m) (τ m') o1 o1' l l' (hinj m m' o o' ho ho' hne) ho1 ho1' hl hl' (by rw[hro1,hro2]; exact hq)
 ·obtain⟨m,o,l,ho,hro,hl,hk⟩:=hk
  obtain⟨o1,ho1,hro1⟩:=at1 m o ho
  exact aft.fr.fresh k ⟨τ m,o1,l,ho1,by rw[hro1]; exact hro,hl,hk⟩
 ·rcases hobj m o ho with ⟨a,_⟩|⟨_,b,_⟩
  ·exact a
  ·rw[b] at hro; cases hro
 ·rw[<-Zpx,hv]
  exact hcon
def C.flat:C->Bool
 | .bool _|.int _ _|.str _|.pnil|.snil|.mnil|.nilFn=>true
 | _=>false
def W.flat:W->Bool
 | .c x=>x.flat
 | .g l=>l.all C.flat
def V.flat:V->Bool
 | .w x=>x.flat
 | .tup l=>l.all W.flat
theorem C.Jj {c:C} (h:c.flat=true) (σ:Nat->Nat):c.ren σ=c:=by cases c<;>first|rfl|cases h
theorem Jr {α:Type} {g:α->α} {p:α->Bool} (hg:∀ a,p a=true->g a=a):∀ {l:List α},l.all p=true->l.map g=l
 | [],_=>rfl
 | a :: l,h=>by
  simp only[List.all_cons,aQ] at h
  rw[List.map_cons,hg a h.1,Jr hg h.2]
theorem W.Jj {x:W} (h:x.flat=true) (σ:Nat->Nat):x.ren σ=x:=by
 cases x with
 | c x=>show W.c _=_; rw[C.Jj h]
 | g l=>show W.g _=_; rw[Jr (fun a ha=>C.Jj ha σ) h]
theorem V.Jj {x:V} (h:x.flat=true) (σ:Nat->Nat):x.ren σ=x:=by
 cases x with
 | w x=>show V.w _=_; rw[W.Jj h]
 | tup l=>show V.tup _=_; rw[Jr (fun a ha=>W.Jj ha σ) h]
theorem Zx.quiet (c:Zx K P f args h v h1) (hv:v.flat=true) (hk:∀ m,m<h.next->h1.get m=h.get m):Zx K P f args h v h:=by
 refine Zx.tidy c.1 fun tidy=>?_
 refine c.Zdu (τ:=fun m=>if m<h.next then m else h1.next+m) (fun m hm=>if_pos hm) (fun m hm=>?_) (Nat.le_refl _) (V.Jj hv _) (fun m o ho=>.inl ⟨ho,?_⟩) (fun m m' o o' ho ho' hne=>?_)
 ·show h1.next<=if m<h.next then m else h1.next+m
  rw[if_neg oM]
  omega
 ·rw[hk m (tidy m o ho)]; exact ho
 ·have e1:=tidy m o ho
  have e2:=tidy m' o' ho'
  show (if m<h.next then m else _)≠(if m'<h.next then m' else _)
  rw[if_pos e1,if_pos e2]
  exact hne
theorem Zx.row {n off len sz:Nat} {els:List (List C)} {ws:List W} (c:Zx K P f args h (.tup (.c (.slice n off len sz) :: ws)) h1) (hn:h.next<=n) (ho:h1.get n=some (.row sz els false)) (hw:ws.all W.flat=true) (he:els.all (fun l=>l.all C.flat)=true) (hlt:n<h1.next) (hk:∀ m,m<h.next->h1.get m=h.get m) :
  Zx K P f args h (.tup (.c (.slice h.next off len sz) :: ws)) (h.new (.row sz els false)):=by
 refine Zx.tidy c.1 fun tidy=>?_
 have hτ:∀ m,m<h.next->(if m<h.next then m else if m=h.next then n else h1.next+m)=m:=fun m hm=>if_pos hm
 have hτ2:(if h.next<h.next then h.next else if h.next=h.next then n else h1.next+h.next)=n:=by rw[if_neg oM,if_pos rfl]
 refine c.Zdu (τ:=fun m=>if m<h.next then m else if m=h.next then n else h1.next+m) hτ (fun m hm=>?_) (by rw[H.Ze]; omega) ?_ (fun m o hm=>?_) (fun m m' o o' hm hm' hne=>?_)
 ·rw[H.Ze] at hm
  show h1.next<=if m<h.next then m else if m=h.next then n else h1.next+m
  rw[if_neg oM,if_neg oM]
  omega
 ·show V.tup (W.c (C.slice (if h.next<h.next then h.next else if h.next=h.next then n else h1.next+h.next) off len sz) :: ws.map _)=_
  rw[hτ2,Jr (fun a ha=>W.Jj ha _) hw]
 ·rw[H.Zp] at hm
  split at hm
  ·rename_i e
   subst e
   cases hm
   refine .inr ⟨rfl,rfl,?_⟩
   show h1.get (if h.next<h.next then h.next else if h.next=h.next then n else h1.next+h.next)=_
   rw[hτ2,ho]
   show some (O.row sz els false)=some (O.row sz (els.map (List.map (C.ren _))) false)
   rw[Jr (fun l hl=>Jr (fun a ha=>C.Jj ha _) hl) he]
  ·exact .inl ⟨hm,by rw[hk m (tidy m o hm)]; exact hm⟩
 ·have key:∀ m o,(h.new (.row sz els false)).get m=some o->m<h.next\/m=h.next:=fun m o hm=>by
   rw[H.Zp] at hm
   split at hm
   ·rename_i e; exact .inr e
   ·exact .inl (tidy m o hm)
  show (if m<h.next then m else if m=h.next then n else h1.next+m)≠(if m'<h.next then m' else if m'=h.next then n else h1.next+m')
  rcases key m o hm with e|e<;>rcases key m' o' hm' with e'|e'
  ·rw[if_pos e,if_pos e']; exact hne
  ·rw[if_pos e,if_neg oM,if_pos e']; omega
  ·rw[if_neg oM,if_pos e,if_pos e']; omega
  ·omega
theorem Zx.row1 {n off len sz:Nat} {els:List (List C)} (c:Zx K P f args h (.w (.c (.slice n off len sz))) h1) (hn:h.next<=n) (ho:h1.get n=some (.row sz els false)) (he:els.all (fun l=>l.all C.flat)=true) (hlt:n<h1.next) (hk:∀ m,m<h.next->h1.get m=h.get m) :
  Zx K P f args h (.w (.c (.slice h.next off len sz))) (h.new (.row sz els false)):=by
 refine Zx.tidy c.1 fun tidy=>?_
 have hτ:∀ m,m<h.next->(if m<h.next then m else if m=h.next then n else h1.next+m)=m:=fun m hm=>if_pos hm
 have hτ2:(if h.next<h.next then h.next else if h.next=h.next then n else h1.next+h.next)=n:=by rw[if_neg oM,if_pos rfl]
 refine c.Zdu (τ:=fun m=>if m<h.next then m else if m=h.next then n else h1.next+m) hτ (fun m hm=>?_) (by rw[H.Ze]; omega) ?_ (fun m o hm=>?_) (fun m m' o o' hm hm' hne=>?_)
 ·rw[H.Ze] at hm
  show h1.next<=if m<h.next then m else if m=h.next then n else h1.next+m
  rw[if_neg oM,if_neg oM]
  omega
 ·show V.w (W.c (C.slice (if h.next<h.next then h.next else if h.next=h.next then n else h1.next+h.next) off len sz))=_
  rw[hτ2]
 ·rw[H.Zp] at hm
  split at hm
  ·rename_i e
   subst e
   cases hm
   refine .inr ⟨rfl,rfl,?_⟩
   show h1.get (if h.next<h.next then h.next else if h.next=h.next then n else h1.next+h.next)=_
   rw[hτ2,ho]
   show some (O.row sz els false)=some (O.row sz (els.map (List.map (C.ren _))) false)
   rw[Jr (fun l hl=>Jr (fun a ha=>C.Jj ha _) hl) he]
  ·exact .inl ⟨hm,by rw[hk m (tidy m o hm)]; exact hm⟩
 ·have key:∀ m o,(h.new (.row sz els false)).get m=some o->m<h.next\/m=h.next:=fun m o hm=>by
   rw[H.Zp] at hm
   split at hm
   ·rename_i e; exact .inr e
   ·exact .inl (tidy m o hm)
  show (if m<h.next then m else if m=h.next then n else h1.next+m)≠(if m'<h.next then m' else if m'=h.next then n else h1.next+m')
  rcases key m o hm with e|e<;>rcases key m' o' hm' with e'|e'
  ·rw[if_pos e,if_pos e']; exact hne
  ·rw[if_pos e,if_neg oM,if_pos e']; omega
  ·rw[if_neg oM,if_pos e,if_pos e']; omega
  ·omega
theorem Wq (sz:Nat) (L:List (List C)):Fb sz L 0 sz L.length=some L:=by
 unfold Fb
 cases e:Nat.beq L.length 0 with
 | true =>
  have:=bQ e
  have:L=[]:=List.length_eq_zero_iff.1 this
  subst this
  rfl
 | false =>
  simp only[cond_false,Nat.beq_refl,cond_true,Nat.zero_mod,Nat.zero_div,Nat.zero_add,Bool.true_and,List.drop_zero]
  rw[Nat.ble_eq_true_of_le (Nat.le_refl _),List.take_of_length_le (Nat.le_refl _)]
  rfl
theorem Wv {n sz:Nat} {L:List (List C)} {ro:Bool} (ho:h.get n=some (.row sz L ro)):Uf h sz (.slice n 0 L.length sz)=some L:=by
 unfold Uf
 simp only[Nat.beq_refl,cond_true,ho,Wt,Wq]
 cases e:Nat.beq L.length 0 with
 | true =>
  have:=bQ e
  have:L=[]:=List.length_eq_zero_iff.1 this
  subst this
  rfl
 | false=>rfl
theorem Fa {sz i j:Nat} {L:List (List C)} {x:List C} (hj:j<sz) (hx:L[i]? = some x):read1 sz L (i * sz+j)=x[j]?:=by
 unfold read1
 rw[show (i * sz+j) / sz=i by rw[Nat.mul_comm,Nat.mul_add_div oM,Nat.div_eq_of_lt hj,Nat.add_zero],show (i * sz+j) % sz=j by rw[Nat.mul_comm,Nat.mul_add_mod,Nat.mod_eq_of_lt hj],hx]
theorem Nz {sz i:Nat} {L:List (List C)} {e l:List C} (hl:l.length=sz) (h2:2<=sz) (hx:L[i]? = some e) (he:e.length=sz):Z0 sz L (i * sz) l=some (L.set i l):=by
 match l,hl with
 | a :: b :: r,hl =>
  simp only[Z0]
  rw[show i * sz / sz=i from Nat.mul_div_cancel _ oM,Nat.mul_mod_left,hx]
  simp only[Nat.zero_add,List.take_zero,List.nil_append]
  rw[hl,Nat.ble_eq_true_of_le oM,List.drop_of_length_le oM,List.append_nil]
  rfl
 | [a],hl=>simp at hl; omega
 | [],hl=>simp at hl; omega
theorem Zoj {i:Nat} {L:List (List C)} {c d:C} (hx:L[i]? = some [d]):Z0 1 L i [c]=some (L.set i [c]):=by
 simp only[Z0,Nat.div_one,hx,Nat.mod_one]
 rfl
theorem Zjb {sz i:Nat} {L:List (List C)} {e:List C} (h1:1<=sz) (hx:L[i]? = some e) (he:e.length=sz):Zm sz L (i * sz) sz=some e:=by
 unfold Zm
 have e0:Nat.beq sz 0=false:=by
  cases hb:Nat.beq sz 0 with
  | false=>rfl
  | true=>have:=bQ hb; omega
 rw[show i * sz / sz=i from Nat.mul_div_cancel _ oM,Nat.mul_mod_left,hx,e0]
 simp only[cond_false,Nat.zero_add,List.drop_zero]
 rw[Nat.ble_eq_true_of_le oM,List.take_of_length_le oM]
 rfl
theorem Zkx {te:TI} {n n' sz:Nat} {L M:List (List C)} {ro:Bool} (hsz:te.size=sz) (ho:h.get n=some (.row sz L false)) (ho':h.get n'=some (.row sz M ro)) (hM:M≠[]) (hb:(L.length+M.length) * te.bytes<=1099511627776) (hb':L.length+M.length<=1099511627776) :
  O3 h (some te) (.slice n 0 L.length sz) (.slice n' 0 M.length sz)=some (.w (.c (.slice h.next 0 (L.length+M.length) sz)),(h.del n).new (.row sz (L++M) false)):=by
 unfold O3
 simp only[hsz,Wv ho,Wv ho',Ql,cond_true]
 cases M with
 | nil=>exact absurd rfl hM
 | cons a M =>
  simp only[R5]
  rw[Nat.ble_eq_true_of_le hb,Nat.ble_eq_true_of_le hb']
  simp only[Bool.true_and,cond_true,Zak,ho,Uo,hsz]
  rfl
theorem append_nil {te:TI} {n' sz:Nat} {M:List (List C)} {ro:Bool} (hsz:te.size=sz) (ho':h.get n'=some (.row sz M ro)) (hM:M≠[]) (hb:M.length * te.bytes<=1099511627776) (hb':M.length<=1099511627776) :
  O3 h (some te) .snil (.slice n' 0 M.length sz)=some (.w (.c (.slice h.next 0 M.length sz)),h.new (.row sz M false)):=by
 unfold O3
 simp only[hsz,Wv ho',Ql,cond_true]
 cases M with
 | nil=>exact absurd rfl hM
 | cons a M =>
  simp only[R5,Uf,List.length_nil,Nat.zero_add]
  rw[Nat.ble_eq_true_of_le hb,Nat.ble_eq_true_of_le hb']
  simp only[Bool.true_and,cond_true,Zak,Uo,hsz,List.nil_append]
end
section
variable {K:Cfg} {n:Nat} {ts:Zv} {h:H}
theorem Z6y (x:Operand):Oa K ts h (.move x)=Te h (Bi K ts x):=rfl
theorem Zya (x:Operand):Oa K ts h (.assign x)=Te h (Bi K ts x):=rfl
theorem Z16 (op:BinOp) (t:TypeId) (x y:Operand) (u:TypeId):Oa K ts h (.binOp op t x y u)=Gt h (binop K op t (evalW K ts x) (evalW K ts y)):=rfl
theorem Z60 (op:UnOp) (t:TypeId) (x:Operand):Oa K ts h (.unOp op t x)=Gt h (Zro op (Z4 K ts x)):=rfl
theorem Ztf (s t:TypeId) (x:Operand):Oa K ts h (.convert s t x)=Du h (K.types.get s) (K.types.get t) (Z4 K ts x):=rfl
theorem Z6x (t:TypeId) (x:Operand):Oa K ts h (.load t x)=Zey K h t (Z4 K ts x):=rfl
theorem Z2b (t:TypeId) (x y:Operand):Oa K ts h (.store t x y)=Zbb K h t (Z4 K ts x) (evalW K ts y):=rfl
theorem Zn3 (t:TypeId) (x i:Operand):Oa K ts h (.indexAddr t x i)=Gt h (Bo K (K.types.get t) (Z4 K ts x) (Om (Z4 K ts i))):=rfl
theorem Z19 (t:TypeId) (x i:Operand):Oa K ts h (.index t x i)=L6 h (Na K (K.types.get t) (evalW K ts x) (Om (Z4 K ts i))):=rfl
theorem Zte (b:Builtin) (args:Array Operand) (tys:Array TypeId):Oa K ts h (.call ⟨.builtin b,args,tys⟩)=Zr K h b tys.toList (Gs K ts args.toList):=rfl
theorem Z6z (c a b:Operand):Oa K ts h (.pick c a b)=Te h (Zag K ts a b (Z4 K ts c)):=rfl
theorem Z15 (t:TypeId):Oa K ts h (.alloc t)=Wo h (K.types.get t):=rfl
theorem Yae (t:TypeId) (x:Operand):Oa K ts h (.box t x)=Yt h (evalW K ts x):=rfl
theorem Z17 (t:TypeId) (ps:Array (Nat × Operand)):Oa K ts h (.build t ps)=L6 h (Yr K t (Un K ts ps.toList)):=rfl
theorem Zkn (t:TypeId) (len:Nat) (ps:Array (Nat × Operand)):Oa K ts h (.buildSlice t len ps)=Js h len (J9 K t) (Un K ts ps.toList):=rfl
theorem Zqz (x:Operand):Oa K ts h (.nilCheck x)=Gt h (El (Z4 K ts x)):=rfl
theorem Zn4 (t:TypeId) (l c:Operand):Oa K ts h (.makeSlice t l c)=U7 h (J9 K t) (Om (Z4 K ts l)) (Om (Z4 K ts c)):=rfl
theorem Zn2 (t:TypeId) (x:Operand) (f:Nat):Oa K ts h (.fieldAddr t x f)=Gt h (Bn (Z4 K ts x) (Zw K t f)):=rfl
theorem Z18 (t:TypeId) (x:Operand) (f:Nat):Oa K ts h (.field t x f)=L6 h (Tq (evalW K ts x) (Zw K t f)):=rfl
theorem Ztg (x:Operand) (i:Nat):Oa K ts h (.extract x i)=L6 h (Fx i (Bi K ts x)):=rfl
theorem Zyb (t:TypeId) (x k:Operand) (ok:Bool):Oa K ts h (.lookup t x k ok)=Xb K h (Ej K t) (Z4 K ts x) (evalW K ts k) ok:=rfl
theorem Zn5 (t:TypeId) (m k v:Operand):Oa K ts h (.mapUpdate t m k v)=Fy K h (Ej K t) (Z4 K ts m) (evalW K ts k) (evalW K ts v):=rfl
end
theorem Zhx:∀ l:List UInt8,Uk l l=true
 | []=>rfl
 | a :: l=>by simp [Uk,Zhx l]
theorem Zew (a:Nat):Nat.beq a a=true:=Nat.beq_refl a
theorem Zhw:∀ l:List (Option (Nat × Nat)),eqV.eqP l l=true
 | []=>rfl
 | some (a,b) :: l=>by simp [eqV.eqP,Zhw l]
 | none :: l=>by simp [eqV.eqP,Zhw l]
theorem Zej (c:C):eqV.eqCc c c=true:=by
 cases c<;>simp [eqV.eqCc,Zhx,Zhw]
theorem Zhv:∀ l:List C,eqV.eqL l l=true
 | []=>rfl
 | a :: l=>by simp [eqV.eqL,Zej,Zhv l]
theorem Zem:∀ l:List W,eqV.eqT2 l l=true
 | []=>rfl
 | .c a :: l=>by simp [eqV.eqT2,Zej,Zem l]
 | .g a :: l=>by simp [eqV.eqT2,Zhv,Zem l]
theorem Z01 (v:V):eqV v v=true:=by
 cases v with
 | w x=>cases x with
  | c a=>exact Zej a
  | g l=>exact Zhv l
 | tup l=>exact Zem l
theorem Zsz (v:V) (h:H):gives v (some (v,h))=true:=Z01 v
theorem Zyk {n:Nat} {ts:Zv} (d:Tmp) (v:V) (hd:Nat.blt d n=true):Tf n ts (some d) v=some (ts.set d v):=by
 unfold Tf
 simp only[hd,cond_true]
theorem Zyj {n:Nat} {ts:Zv} (v:V):Tf n ts none v=some ts:=rfl
theorem R7 {a b:Nat} (h:a<=b):Nat.ble a b=true:=Nat.ble_eq_true_of_le h
section
variable {K:Cfg} {P:Program} {n:Nat} {rd:Option Nat} {ds:List Nat} {ts:Zv} {h:H} {Q:X->List Nat->Zv->H->Prop} {id:Nat}
theorem Goes.drawn2 (F:Fits K P) (Hh:Hearts K P) {E:Task->Option Out} (S:Sound K P E) {ops:Array Oper} {ts':Zv} {h':H} (st:(X3 0 ops.toList&&Ww ops.toList 0 ops.toList&&Rk ops.toList 0 none [] ops.toList)=true) (g:Zp2 K ops.toList (Zcv K E ops.toList n 0 ops.toList ⟨ts,h,h,[],[]⟩)=some (ts',h')) (q:Q .normal ds ts' h'):Goes K P n rd (.region id ops true) ds ts h Q :=
 Goes.drawn F Hh S (by
  unfold X7
  rw[st]
  show then2 (Zp2 K ops.toList _) _
  rw[g]
  exact q)
end
def Zkr:Option Out->Option V
 | some (.val v _)=>some v
 | _=>none
theorem Zl1 {o:Option Out} {v:V} (h:Zkr o=some v):∃ h',o=some (.val v h'):=by
 unfold Zkr at h
 split at h
 ·cases h; exact⟨_,rfl⟩
 ·cases h
section
variable {K:Cfg} {P:Program} {Y:Kn} {f:FuncId} {args:List W} {v:V}
theorem Zx.pos {h h':H} {G:Nat} (hc:Oz P f) (hg:K.globs.get G=some 0) (c:0<h.next->Zx K P f args h v h'):Zx K P f args h v h':=by
 refine⟨hc,fun ρ w vals r m hr hd ha=>?_⟩
 have hp:0<h.next:=by
  obtain⟨r,e⟩:=hr.glob G 0 hg
  rcases Nat.lt_or_ge 0 h.next with h1|h1
  ·exact h1
  ·rw[hd 0 h1] at e; cases e
 exact (c hp).2 ρ w vals r m hr hd ha
theorem Zx.closed (F:Fits K P) (Hh:Hearts K P) (hY:Zch K P Y) {G:Nat} (hg:K.globs=Tree.set .nil G 0) {n:Nat} (e:Zkr (evX K Y n (.call f args ⟨.nil,1⟩))=some v) (ha:args.all W.flat=true) (hv:v.flat=true) (h:H):Zx K P f args h v h:=by
 obtain⟨h1,e1⟩:=Zl1 e
 have c0:Zx K P f args ⟨.nil,1⟩ v h1:=(Mc F Hh hY n).call f args _ _ _ e1
 refine Zx.pos c0.1 (Zia hg) fun hpos=>Zx.tidy c0.1 fun tidy=>?_
 have none0:∀ n o,¬ (⟨.nil,1⟩:H).get n=some o:=fun n o hn=>by cases hn
 have L:Lies K (fun n=>if n<1 then n else h.next+(n - 1)) ⟨.nil,1⟩ h:=by
  refine⟨fun n hn=>if_neg (by have:1<=n:=hn; omega),fun n hn=>?_,fun n o ho=>(none0 n o ho).elim,fun n n' o o' ho=>(none0 n o ho).elim,fun g n hgn=>?_⟩
  ·show (if n<1 then n else _)<h.next
   have:n<1:=hn
   rw[if_pos this]
   omega
  ·rw[(Sj hg hgn).2]; rfl
 have c1:=c0.frame L (h':=⟨h.m,h.next+(h1.next - 1)⟩) ⟨rfl,fun m o ho=>.inl ⟨ho,fun n o' ho'=>(none0 n o' ho').elim⟩⟩
 rw[Jr (fun a ha=>W.Jj ha _) ha,V.Jj hv] at c1
 exact c1.quiet hv fun m _=>rfl
theorem Zx.closed1 (F:Fits K P) (Hh:Hearts K P) (hY:Zch K P Y) {G:Nat} (hg:K.globs=Tree.set .nil G 0) {n sz len:Nat} {els:List (List C)} {us:List W} (e:Zkr (evX K Y n (.call f (us++[.c (.slice 1 0 len sz)]) ⟨.node none (.node (some (.row sz els true)) .nil .nil) .nil,2⟩))=some v) (ha:us.all W.flat=true) (he:els.all (fun l=>l.all C.flat)=true) (hv:v.flat=true) (h:H) (m:Nat) (hm:h.get m=some (.row sz els false)):Zx K P f (us++[.c (.slice m 0 len sz)]) h v h:=by
 obtain⟨h1,e1⟩:=Zl1 e
 have c0:=(Mc F Hh hY n).call f _ _ _ _ e1
 refine Zx.pos c0.1 (Zia hg) fun hpos=>Zx.tidy c0.1 fun tidy=>?_
 have only:∀ n o,(⟨.node none (.node (some (.row sz els true)) .nil .nil) .nil,2⟩:H).get n=some o->n=1/\o=.row sz els true:=fun n o hn=>by
  have hn':(Tree.node none (.node (some (O.row sz els true)) .nil .nil) .nil).get n=some o:=hn
  rw[Tree.Be] at hn'
  split at hn'
  ·cases hn'
  ·split at hn'
   ·rw[Tree.Be] at hn'
    split at hn'
    ·cases hn'; exact⟨oM,rfl⟩
    ·split at hn'<;>(rw[Tree.Fj] at hn'; cases hn')
   ·rw[Tree.Fj] at hn'; cases hn'
 have fl:∀ σ:Nat->Nat,(O.row sz els false).ren σ=.row sz els false:=fun σ=>by
  show O.row sz (els.map (List.map (C.ren σ))) false=_
  rw[Jr (fun l hl=>Jr (fun a ha=>C.Jj ha _) hl) he]
 have L:Lies K (fun n=>if n<1 then n else if n<2 then m else h.next+(n - 2)) ⟨.node none (.node (some (.row sz els true)) .nil .nil) .nil,2⟩ h:=by
  refine⟨fun n hn=>?_,fun n hn=>?_,fun n o ho=>?_,fun n n' o o' ho ho' hne=>?_,fun g n hgn=>?_⟩
  ·have:2<=n:=hn
   show (if n<1 then n else if n<2 then m else h.next+(n - 2))=h.next+(n - 2)
   rw[if_neg oM,if_neg oM]
  ·have:n<2:=hn
   have:=tidy m _ hm
   show (if n<1 then n else if n<2 then m else _)<h.next
   by_cases h1:n<1
   ·rw[if_pos h1]; omega
   ·rw[if_neg h1,if_pos oM]; exact this
  ·obtain⟨rfl,rfl⟩:=only n o ho
   exact⟨rfl,_,hm,.inr ⟨sz,els,rfl,(fl _).symm⟩⟩
  ·exact absurd ((only n o ho).1.trans (only n' o' ho').1.symm) hne
  ·rw[(Sj hg hgn).2]; rfl
 have c1:=Zx.frame c0 L (h':=⟨h.m,h.next+(h1.next - 2)⟩) ⟨rfl,fun k o ho=>.inl ⟨ho,fun n o' ho' _=>by rw[(only n o' ho').2]; rfl⟩⟩
 rw[List.map_append,Jr (fun a ha=>W.Jj ha _) ha,V.Jj hv] at c1
 exact c1.quiet hv fun m _=>rfl
end
def Oy:List C->Option (List Nat)
 | []=>some []
 | .int .u8 (.ofNat n) :: l=>bif Nat.blt n 256 then (match Oy l with
  | some r=>some (n :: r)
  | none=>none) else none
 | _=>none
theorem Zis:∀ {l:List C} {r:List Nat},Oy l=some r->r.length=l.length/\∀ (j b:Nat),r[j]? = some b->b<256/\l[j]? = some (.int .u8 (b:Int))
 | [],r,h=>by
  cases h
  exact⟨rfl,fun j b h=>by simp at h⟩
 | .int .u8 (.ofNat n) :: l,r,h=>by
  simp only[Oy] at h
  cases hb:Nat.blt n 256 with
  | false=>rw[hb] at h; cases h
  | true =>
   rw[hb] at h
   simp only[cond_true] at h
   cases hr:Oy l with
   | none=>rw[hr] at h; cases h
   | some r' =>
    rw[hr] at h
    cases h
    obtain⟨h1,h2⟩:=Zis hr
    refine⟨by simp [h1],fun j b hj=>?_⟩
    cases j with
    | zero =>
     simp at hj
     subst hj
     exact⟨by simpa [Nat.blt_eq] using hb,rfl⟩
    | succ j=>exact h2 j b (by simpa using hj)
 | .int .u8 (.negSucc _) :: _,_,h=>by simp [Oy] at h
 | .int .i8 _ :: _,_,h=>by simp [Oy] at h
 | .int .i16 _ :: _,_,h=>by simp [Oy] at h
 | .int .i32 _ :: _,_,h=>by simp [Oy] at h
 | .int .i64 _ :: _,_,h=>by simp [Oy] at h
 | .int .u16 _ :: _,_,h=>by simp [Oy] at h
 | .int .u32 _ :: _,_,h=>by simp [Oy] at h
 | .int .u64 _ :: _,_,h=>by simp [Oy] at h
 | .bool _ :: _,_,h=>by simp [Oy] at h
 | .str _ :: _,_,h=>by simp [Oy] at h
 | .ptr _ _ :: _,_,h=>by simp [Oy] at h
 | .pnil :: _,_,h=>by simp [Oy] at h
 | .slice _ _ _ _ :: _,_,h=>by simp [Oy] at h
 | .snil :: _,_,h=>by simp [Oy] at h
 | .map _ :: _,_,h=>by simp [Oy] at h
 | .mnil :: _,_,h=>by simp [Oy] at h
 | .fn _ _ _ :: _,_,h=>by simp [Oy] at h
 | .yield _ :: _,_,h=>by simp [Oy] at h
 | .nilFn :: _,_,h=>by simp [Oy] at h
theorem Zkq {sz off n:Nat} {els:List (List C)} {l:List C} (h:Zm sz els off n=some l) (hn:off % sz+n<=sz):l.length=n/\∀ j,j<n->read1 sz els (off+j)=l[j]?:=by
 unfold Zm at h
 cases e:Nat.beq n 0 with
 | true =>
  have:=bQ e
  subst this
  rw[e] at h
  cases h
  exact⟨rfl,fun j hj=>by omega⟩
 | false =>
  rw[e] at h
  simp only[cond_false] at h
  cases hx:els[off / sz]? with
  | none=>rw[hx] at h; cases h
  | some x =>
   rw[hx] at h
   simp only at h
   cases hb:Nat.ble (off % sz+n) x.length with
   | false=>rw[hb] at h; cases h
   | true =>
    rw[hb] at h
    cases h
    have hle:off % sz+n<=x.length:=lQ hb
    refine⟨by simp; omega,fun j hj=>?_⟩
    have hpos:0<sz:=oM
    have e1:(off+j) / sz=off / sz:=by
     have h1:=Nat.div_add_mod off sz
     have h2:off+j=sz * (off / sz)+(off % sz+j):=oM
     rw[h2,Nat.mul_add_div hpos,Nat.div_eq_of_lt (show off % sz+j<sz by omega),Nat.add_zero]
    have e2:(off+j) % sz=off % sz+j:=by
     have h1:=Nat.div_add_mod off sz
     have h2:off+j=sz * (off / sz)+(off % sz+j):=oM
     rw[h2,Nat.mul_add_mod,Nat.mod_eq_of_lt (show off % sz+j<sz by omega)]
    unfold read1
    rw[e1,e2,hx]
    rw[List.getElem?_take_of_lt hj,List.getElem?_drop]
open Go.RowKit
section
variable {K:Cfg} {P:Program} {n:Nat} {rd:Option Nat} {ds:List Nat} {ts:Zv} {h:H} {Q R:X->List Nat->Zv->H->Prop} {a b c:Code} {id:Nat}
theorem Zx.Ych (F:Fits K P) (Hh:Hearts K P) {f:FuncId} {fn:Func} {body:Code} {args:List W} {R:V->H->Prop} (hc:K.clones.contains f=false) (hs:K.sorted.lookup f=none) (hf:K.funcs.get f=some fn) (hb:fn.body=some body) (hn:Nat.ble args.length fn.ntmps=true)
  (g:Goes K P fn.ntmps none body [] (Ug 0 args .nil) h fun x ds ts h1=>∃ v h',leave K fn (some (.at x ds ts h1))=some (.val v h')/\R v h'):∃ v h',Zx K P f args h v h'/\R v h':=by
 obtain⟨x,ds',ts',h1,g1,v,h',g2,r⟩:=g
 exact⟨v,h',Zx.body F Hh hc hs hf hb hn g1 g2,r⟩
end
theorem Zcl {K:Cfg} {E:Task->Option Out} {ts:Zv} {h:H} (f:FuncId) (a b:Array Operand):Ul K E ts h (.makeFunc (.func f) a b)=Gt h (Sq f (Gs K ts a.toList) (Gs K ts b.toList)):=rfl
theorem Zmr {K:Cfg} {E:Task->Option Out} {ts:Zv} {h:H} (t:TypeId):Ul K E ts h (.makeMap t none)=Mf h:=rfl
theorem Zw9 {K:Cfg} {E:Task->Option Out} {ts:Zv} {h:H} (t:TypeId) (x:Operand) (lo hi:Option Operand):Ul K E ts h (.slice t x lo hi none)=Gt h (Uj K h (K.types.get t) (Z4 K ts x) (Bf K ts lo) (Bf K ts hi)):=rfl
theorem Zsd {K:Cfg} {E:Task->Option Out} {ts:Zv} {h:H} (t:TypeId) (x:Operand) (lo hi:Option Operand) (m:Operand):Ul K E ts h (.slice t x lo hi (some m))=Gt h (Zdi K h (K.types.get t) (Z4 K ts x) (Bf K ts lo) (Bf K ts hi) (Bf K ts (some m))):=rfl
theorem U1 {K:Cfg} {E:Task->Option Out} {all rest:List Oper} {n:Nat} {ts ts':Zv} {h h':H} {o:Oper} {r:Option (Zv × H)} (e:Zcw K E all n ts h o=some (ts',h')) (g:Fw K E all n rest ts' h'=r):Fw K E all n (o :: rest) ts h=r:=by
 rw[X8,e]
 exact g
theorem U0 {K:Cfg} {E:Task->Option Out} {all:List Oper} {n:Nat} {ts:Zv} {h:H}:Fw K E all n [] ts h=some (ts,h):=rfl
theorem Zbr {a b:Nat} (h:a<b):Nat.blt a b=true:=Gv h
theorem Qs {a b:Nat} (h:a<=b):Nat.ble a b=true:=Nat.ble_eq_true_of_le h
theorem Z8e {a b:Nat} (h:a=b):Nat.beq a b=true:=by subst h; exact Nat.beq_refl a
theorem Qq {a b:Nat} (h:a≠b):Nat.beq a b=false:=by
 cases hx:Nat.beq a b with
 | false=>rfl
 | true=>exact absurd (bQ hx) h
theorem Ybx {a b:Nat} (h:b<=a):Nat.blt a b=false:=by
 cases hx:Nat.blt a b with
 | false=>rfl
 | true=>rw[Nat.blt_eq] at hx; omega
theorem Zwt {z:Int} (h : -9223372036854775808<=z/\z<9223372036854775808):Jm .i64 z=.int .i64 z:=wrap64 h.1 h.2
theorem Zap {z:Int} (h:0<=z/\z<4294967296):Jm .u32 z=.int .u32 z:=by
 unfold Jm IntKind.wrap
 congr 1
 show (z % 4294967296)=z
 omega
theorem Zjm {z:Int} (h:0<=z/\z<65536):Jm .u16 z=.int .u16 z:=by
 unfold Jm IntKind.wrap
 congr 1
 show (z % 65536)=z
 omega
theorem Zd0 {z:Int} (h:0<=z/\z<256):Jm .u8 z=.int .u8 z:=by
 unfold Jm IntKind.wrap
 congr 1
 show (z % 256)=z
 omega
theorem Yd1 {p:Prop} [Decidable p] (h:p):decide p=true:=decide_eq_true h
theorem Yd0 {p:Prop} [Decidable p] (h:¬p):decide p=false:=decide_eq_false h
theorem Q9 {a b:Int} (h:a=b):(a == b)=true:=by simpa using h
theorem Db {a b:Int} (h:a≠b):(a == b)=false:=by simpa using h
theorem Nn {a b:Int} (h:a≠b):(a != b)=true:=by simpa using h
theorem Ycr {a b:Int} (h:a=b):(a != b)=false:=by simpa using h
theorem Zvl {f:Nat->Nat->Nat} {a b:Nat} (ha:a<256) (hb:b<256) (hf:f a b<256):De .u8 f (a:Int) (b:Int)=.int .u8 (f a b:Nat):=by
 unfold De
 have e1:((a:Int) % 2 ^ IntKind.u8.bits).toNat=a:=by
  show ((a:Int) % 256).toNat=a
  omega
 have e2:((b:Int) % 2 ^ IntKind.u8.bits).toNat=b:=by
  show ((b:Int) % 256).toNat=b
  omega
 rw[e1,e2]
 exact Zd0 oM
theorem Et {k:IntKind} {a b:Nat} (hb:0<b):Nr k (a:Int) (b:Int)=some (.int k ((a % b:Nat):Int)):=by
 unfold Nr
 have:((b:Int) == 0)=false:=by simp; omega
 rw[this]
 rfl
theorem Lj {a b:Nat} (hb:0<b) (ha:a<9223372036854775808):Tt .i64 (a:Int) (b:Int)=some (.int .i64 ((a / b:Nat):Int)):=by
 unfold Tt
 have:((b:Int) == 0)=false:=by simp; omega
 rw[this,cond_false]
 have e:(a:Int).tdiv b=((a / b:Nat):Int):=rfl
 have h1:a / b<=a:=Nat.div_le_self _ _
 rw[e,Zwt]
 generalize a / b=q at h1
 omega
theorem Z7d {k:IntKind} {a n:Nat} (h:0<(OfNat.ofNat n:Nat)):Nr k (a:Int) (no_index (OfNat.ofNat n:Int))=some (.int k ((a % (OfNat.ofNat n:Nat):Nat):Int)):=Et (b:=n) h
theorem Z68 {a n:Nat} (h:0<(OfNat.ofNat n:Nat)/\a<9223372036854775808):Tt .i64 (a:Int) (no_index (OfNat.ofNat n:Int))=some (.int .i64 ((a / (OfNat.ofNat n:Nat):Nat):Int)):=Lj (b:=n) h.1 h.2
theorem Zx3 {k:IntKind} {z:Int} (h:0<=z):Om (some (.int k z))=some z.toNat:=by
 obtain⟨m,rfl⟩:=Int.eq_ofNat_of_zero_le h
 rfl
theorem Z4p {E:Task->Option Out} {f g:FuncId} {args us:List W} {h k:H} {v:V} {h':H} (e:g≠f):E1 E f args h v h' (.call g us k)=E (.call g us k):=by
 simp [E1,e]
theorem Z2j {n d:Nat} {ts:Zv} {h:H} {v:V} (hd:d<n):Qd n ts (some d) (some (v,h))=some (ts.set d v,h):=Zy d v (Zbr hd)
theorem Z67 {n d:Nat} {ts:Zv} {v:V} (hd:d<n):Tf n ts (some d) v=some (ts.set d v):=Zyk d v (Zbr hd)
theorem Zw1:Zeb (.pointer none)=some (.w (.c .pnil)):=rfl
theorem Zw2:Zeb (.slice none 0 0)=some (.w (.c .snil)):=rfl
theorem Zw0:Zeb (.map none)=some (.w (.c .mnil)):=rfl
theorem Zr9:Zeb .nilFunc=some (.w (.c .nilFn)):=rfl
theorem Zzo (s:ByteArray):Zeb (.string s)=some (.w (.c (.str s.data.toList))):=rfl
theorem Zz (h:H) (n:Nat) (o:O):(h.put n o).get n=some o:=by rw[H.get_put,if_pos rfl]
theorem Zc {h:H} {n m:Nat} {o:O} (e:m≠n):(h.put n o).get m=h.get m:=by rw[H.get_put,if_neg e]
theorem O6 (h:H) (o:O):(h.new o).get h.next=some o:=by rw[H.Zp,if_pos rfl]
theorem Yf {h:H} {m:Nat} {o:O} (e:m≠h.next):(h.new o).get m=h.get m:=by rw[H.Zp,if_neg e]
theorem Oe {h:H} {m:Nat} {o:O} (e:m<=h.next/\h.next<=m):(h.new o).get m=some o:=by rw[show m=h.next by omega,O6]
theorem Zh7 {h:H} {n m:Nat} (e:m≠n):(h.del n).get m=h.get m:=by rw[H.D5,if_neg e]
attribute [go_sem] X8 Zen Zp7 Zp6 D9 Zd9 Tree.Za5 List.getElem?_cons_succ List.getElem?_cons_zero Un Zzt Zsa Zw4 Zzv Zpf Zzs Zxb Zkd Zzq Zzu Z4x Zw5 Zg8 Zms Zke Zkc Zw6 Zpg Zsb Zkf Zpe Z47 Zsh Zsi Zxd Z49 Z48 Z0b Zq1 Zq0 Zq3 Zq2 Zzr Zw7 evalW Z4 Gs Ya Zp9 Zsv Zzn Zwz asW asC Zo binop Zvk Z5a Zro Gt L6 Te Yaf Zlu Zey Go.Ev.load Zbb Go.Ev.store putRow Bo Zql Zx5 Zx4 Du Wo Zit Z2j Ztk Sa O1 List.map_nil List.nil_append List.append_nil cond_true cond_false H.Zf H.Ze if_true El Zag Fx Bn Zvn Zvo List.length_cons List.length_nil Yy Yo nbeq10 Ybt Ybs Ybr Ybq Bool.not_true Bool.not_false
attribute [go_sem] Zz Zc O6 Yf Oe Zh7 H.Yv Zwt Zap Zjm Zd0 Zx3 Zbr Qs Z8e Qq Ybx Nat.beq_refl U2
attribute [go_sem] Er Znu Jg finish Jb Ue
attribute [go_sem] Int.toNat_natCast Zw1 Zw2 Zw0 Zr9 Zzo Option.toList_some Option.toList_none Z89 Z0z eqC isB Z11 Z4p Nat.zero_add Nat.mul_one cW gW List.getElem?_nil
attribute [go_sem] Zcl Zmr Zw9 Zsd Sq ptrs Mf
attribute [go_sem] Z7d Z68 Yd1 Yd0 Q9 Db Nn Ycr
attribute [go_sem] Bool.and_true Bool.true_and Bool.and_false Bool.false_and Bool.and_self Bool.or_true Bool.true_or Bool.or_false Bool.false_or List.getElem?_cons_zero
attribute [go_sem] Yh Eg partOf Tq Z9a List.set_cons_zero List.set_cons_succ List.take_succ_cons List.drop_succ_cons List.take_zero List.drop_zero List.take_nil List.drop_nil List.cons_append List.singleton_append Z8
attribute [go_sem] piece part0 part1 part2 Yag Yah part3 part4 part5 part6 J8 Z61
section
variable {K:Cfg} {P:Program} {n:Nat} {rd:Option Nat} {ds:List Nat} {ts:Zv} {h:H} {Q:X->List Nat->Zv->H->Prop} {q a b:Code} {id:Nat}
theorem Goes.Zi {o:Operand} {v:Bool} (hc:Z4 K ts o=some (.bool v)) (g:Goes K P n rd (bif v then a else b) ds ts h Q):Goes K P n rd (.cond o a b) ds ts h Q:=by
 cases v with
 | true=>exact Goes.Yb3 hc g
 | false=>exact Goes.Yb2 hc g
end
theorem lens:(∀ (h:H) (o:O),(h.new o).next=h.next+1)/\(∀ (h:H) (n:Nat) (o:O),(h.put n o).next=h.next)/\(∀ a b:List C,(a++b).length=a.length+b.length)/\(∀ (n:Nat) (x:C),(List.replicate n x).length=n)/\(∀ (x:C) (l:List C),(x :: l).length=l.length+1)/\([]:List C).length=0/\(∀ (n:Nat) (l:List C),(l.take n).length=min n l.length)/\(∀ (l:List C) (i:Nat) (c:C),(l.set i c).length=l.length)/\(∀ (l:List Nat) (i c:Nat),(l.set i c).length=l.length) :=
 ⟨H.Ze,H.Zf,fun _ _=>List.length_append,fun _ _=>List.length_replicate,fun _ _=>List.length_cons,rfl,fun _ _=>List.length_take,fun _ _ _=>List.length_set,fun _ _ _=>List.length_set⟩
theorem dZ {p:Prop} (h:p:=by first|omega|(simp only[lens]<;>omega)|decide):p:=h
attribute [go_sem] Z6y Zya Z16 Z60 Ztf Z6x Z2b Zn3 Z15 Z6z Yae Z17 Zkn Zqz Zn4 Zn2 Z18 Ztg Zyb Zn5 Zte Z19
attribute [go_sem] Zp2 Zcv Zla Z9j Yb9 Zsp Zsq Znc Zk9 Zsr Vv Z67 Zyj Ec looks Z8s Op.operands Call.operands kd Zs9 Wx stable Zdr Zja waits Zsz Region.binds
theorem drG:(∀ (α β:Type) (f:α->Option β) (a:α) (l:List α),(a :: l).filterMap f=match f a with|none=>l.filterMap f|some b=>b :: l.filterMap f)/\(∀ (α β:Type) (f:α->Option β),List.filterMap f []=[])/\(∀ (α:Type) (l:List α),l++[]=l)/\(∀ (α:Type) (l:List α),[]++l=l)/\(∀ (α:Type) (p:α->Bool) (a:α) (l:List α),(a :: l).all p=(p a&&l.all p))/\(∀ (α:Type) (p:α->Bool),List.all [] p=true)/\(∀ (α:Type) (p:α->Bool) (a:α) (l:List α),(a :: l).any p=(p a || l.any p))/\(∀ (α:Type) (p:α->Bool),List.any [] p=false)/\(∀ (α β:Type) (f:α->β) (a:α) (l:List α),(a :: l).map f=f a :: l.map f)/\(∀ (α:Type) (a b:Array α),(a++b).toList=a.toList++b.toList)/\(∀ a b:Nat,a<=b->Nat.ble a b=true)/\(∀ a:Nat,a<=a)/\∀ a b:Nat,a<=a+b :=
 ⟨fun _ _ _ _ _=>List.filterMap_cons,fun _ _ _=>rfl,fun _ l=>List.append_nil l,fun _ _=>rfl,fun _ _ _ _=>rfl,fun _ _=>rfl,fun _ _ _ _=>rfl,fun _ _=>rfl,fun _ _ _ _ _=>rfl,fun _ _ _=>Array.toList_append,fun _ _ h=>R7 h,Nat.le_refl,fun a b=>Nat.le_add_right a b⟩
open Go.RowKit
section
variable {K:Cfg} {P:Program} {n:Nat} {rd:Option Nat} {ds:List Nat} {ts:Zv} {h:H} {Q:X->List Nat->Zv->H->Prop} {id:Nat}
def Z8z (Q:X->List Nat->Zv->H->Prop) (ds:List Nat) (ts:Zv) (h:H):Option Code->Prop
 | none=>Q .normal ds ts h
 | some (.exit id)=>Q (.exit id) ds ts h
 | some .ret=>Q .ret ds ts h
 | _=>False
theorem Zn6 {pend:Option Code} (q:Z8z Q ds ts h pend):∃ x,pending ds ts h pend=some (.at x ds ts h)/\Q x ds ts h:=by
 cases pend with
 | none=>exact⟨.normal,rfl,q⟩
 | some c=>cases c<;>first|exact⟨_,rfl,q⟩|exact q.elim
theorem Goes.range (F:Fits K P) (Hh:Hearts K P) {g:Operand} {ps:Array Tmp} {assign body:Code} {f:FuncId} {first caps:List (Option (Nat × Nat))} (hg:Z4 K ts g=some (.fn f first caps)) {v:V} {h3:H} (c:Zx K P f (O1 [.c (.yield (h.next+1))] first caps) ((h.new .defers).new (.loop ts n ps.toList assign body .ready none h.next)) v h3)
  {ts':Zv} {n':Nat} {ps':List Tmp} {us1' bd':Code} {st:LoopState} {pend:Option Code} {d:Nat} (hl:h3.get (h.next+1)=some (.loop ts' n' ps' us1' bd' st pend d)) (hst:st≠.busy)
  (q:Z8z Q (h.next :: ds) ts (h3.put (h.next+1) (.loop ts' n' ps' us1' bd' .exhausted pend d)) pend):Goes K P n none (.rangeFunc g ps assign body) ds ts h Q:=by
 obtain⟨x,e,q'⟩:=Zn6 q
 have S:=Zj Za c
 have T:=Mo F Hh S (Zaz F S)
 refine⟨x,_,_,_,T.code (.rangeFunc g ps assign body) n none ds ts h x _ _ _ ?_,q'⟩
 show Zgv _ ps.toList assign body n none ds ts h (Z4 K ts g)=_
 rw[hg]
 show endLoop (h.next :: ds) ts (h.new .defers).next (E1 E0 f _ _ v h3 (.call f (O1 [.c (.yield (h.new .defers).next)] first caps) ((h.new .defers).new (.loop ts n ps.toList assign body .ready none h.next))))=_
 rw[show (h.new .defers).next=h.next+1 from rfl,Z7]
 show (match h3.get (h.next+1) with
  | some (.loop ts' n' ps ag bd st pend d)=>(match st with
   | .busy=>none
   | _=>pending (h.next :: ds) ts (h3.put (h.next+1) (.loop ts' n' ps ag bd .exhausted pend d)) pend)
  | _=>none)=_
 rw[hl]
 cases st with
 | busy=>exact absurd rfl hst
 | _=>exact e
theorem exE {α β:Type} {A R S:α->β->Prop} (x:∃ a b,A a b/\R a b) (q:∀ a b,R a b->S a b):∃ a b,A a b/\S a b:=by
 obtain⟨a,b,h1,h2⟩:=x
 exact⟨a,b,h1,q a b h2⟩
theorem Goes.Ze4 (F:Fits K P) (Hh:Hearts K P) {g:Operand} {ps:Array Tmp} {assign body:Code} {f:FuncId} {first caps:List (Option (Nat × Nat))} (hg:Z4 K ts g=some (.fn f first caps))
  (e:∃ v h3,Zx K P f (O1 [.c (.yield (h.next+1))] first caps) ((h.new .defers).new (.loop ts n ps.toList assign body .ready none h.next)) v h3 /\
   ∃ st pend ts' n' ps' us1' bd' d,h3.get (h.next+1)=some (.loop ts' n' ps' us1' bd' st pend d)/\st≠.busy/\Z8z Q (h.next :: ds) ts (h3.put (h.next+1) (.loop ts' n' ps' us1' bd' .exhausted pend d)) pend):Goes K P n none (.rangeFunc g ps assign body) ds ts h Q:=by
 obtain⟨v,h3,c,st,pend,ts',n',ps',us1',bd',d,hl,hst,q⟩:=e
 exact Goes.range F Hh hg c hl hst q
open Classical in
noncomputable def EA (E:Task->Option Out) (f:FuncId) (args:List W) (v:H->V) (g:H->H):Task->Option Out:=fun t=>match t with
 | .call f' args' h=>if f'=f/\args'=args then some (.val (v h) (g h)) else E t
 | t=>E t
theorem Y3 {E:Task->Option Out} (S:Sound K P E) {f:FuncId} {args:List W} {v:H->V} {g:H->H} (c:∀ h,Zx K P f args h (v h) (g h)):Sound K P (EA E f args v g):=by
 refine⟨fun f' us k u k' he=>?_,fun c n rd ds ts h x ds' ts' h' he=>?_,fun t o he=>?_⟩
 ·simp only[EA] at he
  split at he
  ·rename_i e
   obtain⟨rfl,rfl⟩:=e
   cases he
   exact c k
  ·exact S.call f' us k u k' he
 ·exact S.code c n rd ds ts h x ds' ts' h' he
 ·cases t with
  | code c n rd ds ts h=>exact S.shape _ o he
  | call f' us k =>
   simp only[EA] at he
   split at he
   ·cases he
    exact .inl ⟨_,_,_,_,_,rfl,rfl⟩
   ·exact S.shape _ o he
theorem Z4q (E:Task->Option Out) (f:FuncId) (args:List W) (v:H->V) (g:H->H) (h:H):EA E f args v g (.call f args h)=some (.val (v h) (g h)):=by simp [EA]
theorem Z4r {E:Task->Option Out} {f f':FuncId} {args us:List W} {v:H->V} {g:H->H} {h:H} (e:f'≠f):EA E f args v g (.call f' us h)=E (.call f' us h):=by
 simp [EA,e]
attribute [go_sem] Z4q Z4r
open Classical in
noncomputable def E1c (E:Task->Option Out) (c:Code) (n:Nat) (rd:Option Nat) (ds:List Nat) (ts:Zv) (h:H) (x:X) (ds':List Nat) (ts':Zv) (h':H):Task->Option Out:=fun t=>if t=.code c n rd ds ts h then some (.at x ds' ts' h') else E t
theorem Dq {E:Task->Option Out} (S:Sound K P E) {c:Code} {x:X} {ds':List Nat} {ts':Zv} {h':H} (k:Yg K P n rd c ds ts h x ds' ts' h'):Sound K P (E1c E c n rd ds ts h x ds' ts' h'):=by
 refine⟨fun g us k' u k2 he=>?_,fun c2 n2 rd2 ds2 ts2 h2 x2 ds3 ts3 h3 he=>?_,fun t o he=>?_⟩
 ·simp only[E1c] at he
  split at he
  ·rename_i e
   cases e
  ·exact S.call g us k' u k2 he
 ·simp only[E1c] at he
  split at he
  ·rename_i e
   cases e
   cases he
   exact k
  ·exact S.code c2 n2 rd2 ds2 ts2 h2 x2 ds3 ts3 h3 he
 ·simp only[E1c] at he
  split at he
  ·rename_i e
   cases e
   cases he
   exact .inr ⟨_,_,_,_,_,_,_,_,_,_,rfl,rfl⟩
  ·exact S.shape t o he
theorem Ex (E:Task->Option Out) (c:Code) (n:Nat) (rd:Option Nat) (ds:List Nat) (ts:Zv) (h:H) (x:X) (ds':List Nat) (ts':Zv) (h':H):E1c E c n rd ds ts h x ds' ts' h' (.code c n rd ds ts h)=some (.at x ds' ts' h'):=by simp [E1c]
theorem Qm {E:Task->Option Out} {c:Code} {x:X} {ds':List Nat} {ts':Zv} {h':H} {c2:Code} {n2:Nat} {rd2:Option Nat} {ds2:List Nat} {ts2:Zv} {h2:H} (e:Task.code c2 n2 rd2 ds2 ts2 h2≠Task.code c n rd ds ts h):E1c E c n rd ds ts h x ds' ts' h' (.code c2 n2 rd2 ds2 ts2 h2)=E (.code c2 n2 rd2 ds2 ts2 h2):=by
 unfold E1c
 rw[if_neg e]
theorem Mj {E:Task->Option Out} {l:Nat} {args:List W} {lts:Zv} {ps:List Tmp} {assign body:Code} {st0:LoopState} {pend0:Option Code} {d:Nat} {ts1:Zv} (hl:h.get l=some (.loop lts n ps assign body st0 pend0 d)) (hz:Oh n ps args lts=some ts1)
  {ds1:List Nat} {ts2:Zv} {h1:H} (ha:E (.code assign n (some l) [] ts1 h)=some (.at .normal ds1 ts2 h1))
  {lts':Zv} {n':Nat} {ps':List Tmp} {us1' bd':Code} {pend:Option Code} {d':Nat} (hl1:h1.get l=some (.loop lts' n' ps' us1' bd' .ready pend d'))
  {x:X} {ds2:List Nat} {ts3:Zv} {h2:H} (hb:E (.code body n (some l) ds1 ts2 (h1.put l (.loop lts' n' ps' us1' bd' .busy pend d')))=some (.at x ds2 ts3 h2))
  {lts2:Zv} {n2:Nat} {ps2:List Tmp} {as2 bd2:Code} {p2:Option Code} {d2:Nat} (hl2:h2.get l=some (.loop lts2 n2 ps2 as2 bd2 .busy p2 d2)) :
  J5 E l (some args) h (h.get l)=some (.val (.w (.c (.bool (Zqp x)))) (h2.put l (.loop lts2 n2 ps2 as2 bd2 (Zoa x) (Znt x) d2))):=by
 rw[hl]
 simp only[J5,hz,ha,V9,hl1,hb,endRound,hl2]
end
open Go.RowKit
section
variable {K:Cfg} {P:Program} {f:FuncId} {args:List W} {h h1 h2:H} {v:V}
abbrev Kn1:=List W->H->Option (V × H)
def Z62:Option (V × H)->Option Out
 | some (v,h)=>some (.val v h)
 | none=>none
theorem Zyc (v:V) (h:H):Z62 (some (v,h))=some (.val v h):=rfl
theorem Zwg {r:Option (V × H)} {o:Out} (e:Z62 r=some o):∃ v h,r=some (v,h)/\o=.val v h:=by
 match r with
 | some (v,h)=>cases e; exact⟨v,h,rfl,rfl⟩
 | none=>cases e
noncomputable def EX (E:Task->Option Out) (f:FuncId) (x:Kn1):Task->Option Out:=fun t=>match t with
 | .call g args h=>bif Nat.beq g f then Z62 (x args h) else E (.call g args h)
 | t=>E t
theorem Rz {E:Task->Option Out} (S:Sound K P E) {f:FuncId} {x:Kn1} (c:∀ args h v h',x args h=some (v,h')->Zx K P f args h v h'):Sound K P (EX E f x):=by
 refine⟨fun g us k u k' he=>?_,fun c n rd ds ts h x ds' ts' h' he=>?_,fun t o he=>?_⟩
 ·simp only[EX] at he
  cases hb:Nat.beq g f with
  | true =>
   rw[hb] at he
   obtain⟨v,h,e,e2⟩:=Zwg he
   cases e2
   obtain rfl:=bQ hb
   exact c _ _ _ _ e
  | false=>rw[hb] at he; exact S.call g us k u k' he
 ·exact S.code c n rd ds ts h x ds' ts' h' he
 ·cases t with
  | code c n rd ds ts h=>exact S.shape _ o he
  | call g us k =>
   simp only[EX] at he
   cases hb:Nat.beq g f with
   | true =>
    rw[hb] at he
    obtain⟨v,h,e,e2⟩:=Zwg he
    exact .inl ⟨_,_,_,_,_,rfl,e2⟩
   | false=>rw[hb] at he; exact S.shape _ o he
theorem EY {E:Task->Option Out} (S:Sound K P E) {f:FuncId} {x:Kn1} (c:∀ {args:List W} {h h':H} {v:V},x args h=some (v,h')->Zx K P f args h v h'):Sound K P (EX E f x):=Rz S fun _ _ _ _ e=>c e
theorem Z4t (E:Task->Option Out) (f:FuncId) (x:Kn1) (args:List W) (h:H):EX E f x (.call f args h)=Z62 (x args h):=by
 simp only[EX,Nat.beq_refl,cond_true]
theorem Z4u {E:Task->Option Out} {f g:FuncId} {x:Kn1} {args:List W} {h:H} (e:g≠f):EX E f x (.call g args h)=E (.call g args h):=by
 have:Nat.beq g f=false:=Qq e
 simp only[EX,this,cond_false]
def Y5 {α:Type} (c:Bool) (k:Option α):Option α:=bif c then k else none
theorem Zxc {α:Type} (k:Option α):Y5 true k=k:=rfl
theorem Zu {α:Type} {c:Bool} {k:Option α} {r:α}:Y5 c k=some r ↔ c=true/\k=some r:=by
 cases c
 ·refine⟨fun e=>?_,fun e=>?_⟩
  ·cases e
  ·cases e.1
 ·exact⟨fun e=>⟨rfl,e⟩,fun e=>e.2⟩
theorem Zk {α β:Type} {o:Option α} {g:α->Option β} {r:β} (e:o.bind g=some r):∃ a,o=some a/\g a=some r:=by
 cases o with
 | none=>cases e
 | some a=>exact⟨a,rfl,e⟩
def Zwy (b:Nat) (o:O):Prop:=o.simple=true/\o.ro=false/\∀ τ:Nat->Nat,(∀ m,m<b->τ m=m)->o.ren τ=o
def Zkb (b:Nat) (v:V):Prop:=∀ τ:Nat->Nat,(∀ m,m<b->τ m=m)->v.ren τ=v
def Vn (h h2:H):Prop:=h2.next=h.next/\∀ m o,h2.get m=some o->m<h.next/\(h.get m=some o\/Zwy h.next o)
theorem Vn.refl (tidy:∀ n o,h.get n=some o->n<h.next):Vn h h:=⟨rfl,fun m o e=>⟨tidy m o e,.inl e⟩⟩
theorem Vn.put {n:Nat} {o:O} (nr:Vn h h2) (hn:n<h.next) (lo:Zwy h.next o):Vn h (h2.put n o):=by
 refine⟨by rw[H.Zf]; exact nr.1,fun m o' e=>?_⟩
 rw[H.get_put] at e
 split at e
 ·rename_i hm
  subst hm
  cases e
  exact⟨hn,.inr lo⟩
 ·exact nr.2 m o' e
theorem Zkb.flat {b:Nat} (e:v.flat=true):Zkb b v:=fun τ _=>V.Jj e τ
theorem Zx.settle (c:Zx K P f args h v h1) (nr:Vn h h2) (hv:Zkb h.next v) (hk:∀ m,m<h.next->h1.get m=h2.get m):Zx K P f args h v h2:=by
 obtain⟨hn,nr⟩:=nr
 have hτ:∀ m,m<h.next->(if m<h.next then m else h1.next+m)=m:=fun m hm=>if_pos hm
 refine c.Zdu (τ:=fun m=>if m<h.next then m else h1.next+m) hτ (fun m hm=>?_) (Nat.le_of_eq hn.symm) (hv _ hτ) (fun m o ho=>?_) (fun m m' o o' ho ho' hne=>?_)
 ·show h1.next<=if m<h.next then m else h1.next+m
  rw[if_neg oM]
  omega
 ·obtain⟨lm,a|⟨s,r,q⟩⟩:=nr m o ho
  ·exact .inl ⟨a,by rw[hk m lm]; exact ho⟩
  ·refine .inr ⟨s,r,?_⟩
   show h1.get (if m<h.next then m else h1.next+m)=some (o.ren _)
   rw[hτ m lm,q _ hτ,hk m lm]
   exact ho
 ·have e1:=(nr m o ho).1
  have e2:=(nr m' o' ho').1
  show (if m<h.next then m else _)≠(if m'<h.next then m' else _)
  rw[if_pos e1,if_pos e2]
  exact hne
abbrev G9:=List (Int × List C)
def Uv (l:G9):List (W × W):=l.map fun p=>(.c (.int .i64 p.1),.g p.2)
def Jd (b:Int):G9->Option (List C)
 | []=>none
 | (k,x) :: l=>bif b == k then some x else Jd b l
def Dp (b:Int) (x:List C):G9->G9
 | []=>[(b,x)]
 | (k,y) :: l=>bif b == k then (b,x) :: l else (k,y) :: Dp b x l
def Zhn (b:Int):G9->G9
 | []=>[]
 | (k,y) :: l=>bif b == k then l else (k,y) :: Zhn b l
def gOf:Option (List C)->Option W
 | some x=>some (.g x)
 | none=>none
theorem Zh2 (kt:TypeId) (b:Int):∀ l:G9,Zfz K kt (.c (.int .i64 b)) (Uv l)=some (gOf (Jd b l))
 | []=>rfl
 | (k,x) :: l=>by
  show (match (if IntKind.i64=IntKind.i64 then some (b == k) else none) with
   | none=>none
   | some true=>some (some (W.g x))
   | some false=>Zfz K kt (.c (.int .i64 b)) (Uv l))=_
  rw[if_pos rfl]
  show _=some (gOf (bif b == k then some x else Jd b l))
  cases b == k with
  | true=>rfl
  | false=>exact Zh2 kt b l
theorem Zly (kt:TypeId) (b:Int) (x:List C):∀ l:G9,Ztj K kt (.c (.int .i64 b)) (.g x) (Uv l)=some (Uv (Dp b x l))
 | []=>rfl
 | (k,y) :: l=>by
  show (match (if IntKind.i64=IntKind.i64 then some (b == k) else none) with
   | none=>none
   | some true=>some ((W.c (.int .i64 b),W.g x) :: Uv l)
   | some false=>match Ztj K kt (.c (.int .i64 b)) (.g x) (Uv l) with
    | none=>none
    | some l'=>some ((W.c (.int .i64 k),W.g y) :: l'))=_
  rw[if_pos rfl]
  show _=some (Uv (bif b == k then (b,x) :: l else (k,y) :: Dp b x l))
  cases b == k with
  | true=>rfl
  | false=>simp only; rw[Zly kt b x l]; rfl
theorem Zk6 (kt:TypeId) (b:Int):∀ l:G9,Zp1 K kt (.c (.int .i64 b)) (Uv l)=some (Uv (Zhn b l))
 | []=>rfl
 | (k,y) :: l=>by
  show (match (if IntKind.i64=IntKind.i64 then some (b == k) else none) with
   | none=>none
   | some true=>some (Uv l)
   | some false=>match Zp1 K kt (.c (.int .i64 b)) (Uv l) with
    | none=>none
    | some l'=>some ((W.c (.int .i64 k),W.g y) :: l'))=_
  rw[if_pos rfl]
  show _=some (Uv (bif b == k then l else (k,y) :: Zhn b l))
  cases b == k with
  | true=>rfl
  | false=>simp only; rw[Zk6 kt b l]; rfl
theorem Zht (l:G9):(Uv l).length=l.length:=List.length_map ..
theorem Np (b k:Int) (x:List C):∀ l:G9,Jd b (Dp k x l)=if b=k then some x else Jd b l
 | []=>by
  show (bif b == k then some x else none)=_
  by_cases e:b=k
  ·rw[if_pos e,Q9 e]; rfl
  ·rw[if_neg e,Db e]; rfl
 | (j,y) :: l=>by
  show Jd b (bif k == j then (k,x) :: l else (j,y) :: Dp k x l)=if b=k then some x else (bif b == j then some y else Jd b l)
  by_cases e:k=j
  ·subst e
   rw[Q9 rfl,cond_true]
   show (bif b == k then some x else Jd b l)=_
   by_cases e:b=k
   ·rw[if_pos e,Q9 e]; rfl
   ·rw[if_neg e,Db e]; rfl
  ·rw[Db e,cond_false]
   show (bif b == j then some y else Jd b (Dp k x l))=_
   rw[Np b k x l]
   by_cases e2:b=j
   ·rw[Q9 e2,cond_true,cond_true,if_neg oM]
   ·rw[Db e2,cond_false,cond_false]
def Bj (l:G9):Bool:=l.all fun p=>p.2.all C.flat
theorem Da {b:Int} {x:List C} (hx:x.all C.flat=true):∀ {l:G9},Bj l=true->Bj (Dp b x l)=true
 | [],_=>by show (x.all C.flat&&true)=true; rw[hx]; rfl
 | (k,y) :: l,h=>by
  have h':(y.all C.flat&&Bj l)=true:=h
  rw[aQ] at h'
  show Bj (bif b == k then (b,x) :: l else (k,y) :: Dp b x l)=true
  cases b == k with
  | true=>show (x.all C.flat&&Bj l)=true; rw[hx,h'.2]; rfl
  | false=>show (y.all C.flat&&Bj (Dp b x l))=true; rw[h'.1,Da hx h'.2]; rfl
theorem Zh3 {b:Int}:∀ {l:G9},Bj l=true->Bj (Zhn b l)=true
 | [],_=>rfl
 | (k,y) :: l,h=>by
  have h':(y.all C.flat&&Bj l)=true:=h
  rw[aQ] at h'
  show Bj (bif b == k then l else (k,y) :: Zhn b l)=true
  cases b == k with
  | true=>exact h'.2
  | false=>show (y.all C.flat&&Bj (Zhn b l))=true; rw[h'.1,Zh3 h'.2]; rfl
theorem M8 {b:Nat} {l:G9} (h:Bj l=true):Zwy b (.map (Uv l)):=by
 refine⟨rfl,rfl,fun τ _=>?_⟩
 show O.map ((Uv l).map (Ydc τ))=_
 congr 1
 rw[Uv,List.map_map]
 refine List.map_congr_left fun p hp=>?_
 show (W.c (.int .i64 p.1),(W.g p.2).ren τ)=_
 rw[W.Jj (x:=.g p.2) (List.all_eq_true.1 h p hp)]
theorem Zwb {b sz:Nat} {els:List (List C)} (h:∀ τ:Nat->Nat,(∀ m,m<b->τ m=m)->els.map (List.map (C.ren τ))=els):Zwy b (.row sz els false) :=
 ⟨rfl,rfl,fun τ hτ=>by show O.row sz (els.map (List.map (C.ren τ))) false=_; rw[h τ hτ]⟩
def Q4:List (W × W)->Option G9
 | []=>some []
 | (.c (.int .i64 k),.g x) :: l=>match Q4 l with
  | some r=>some ((k,x) :: r)
  | none=>none
 | _=>none
theorem Zfy:∀ {l:List (W × W)} {r:G9},Q4 l=some r->l=Uv r
 | [],r,e=>by cases e; rfl
 | (a,x) :: l,r,e=>by
  unfold Q4 at e
  split at e
  ·rename_i heq; cases heq
  ·rename_i k x' l' heq
   cases heq
   split at e
   ·rename_i r' hr
    cases e
    rw[Zfy hr]
    rfl
   ·cases e
  ·cases e
theorem Zfx:∀ l:G9,Q4 (Uv l)=some l
 | []=>rfl
 | (k,x) :: l=>by
  show (match Q4 (Uv l) with
   | some r=>some ((k,x) :: r)
   | none=>none)=_
  rw[Zfx l]
noncomputable def getM (h:H) (n:Nat):Option G9:=match h.get n with
 | some (.map es)=>Q4 es
 | _=>none
theorem getM_some {n:Nat} {l:G9} (e:getM h n=some l):h.get n=some (.map (Uv l)):=by
 unfold getM at e
 split at e
 ·rename_i es he
  rw[he,Zfy e]
 ·cases e
theorem Lm {sz:Nat} {x:List C} (h:x.length<=sz/\sz<=x.length/\0<sz):Zm sz [x] 0 sz=some x:=by
 obtain rfl:sz=x.length:=oM
 exact Zal h.2.2
theorem Zrb {sz n:Nat} {x:List C} (h:x.length<=sz/\sz<=x.length/\0<n/\n<=sz):Zm sz [x] 0 n=some (x.take n):=by
 obtain rfl:sz=x.length:=oM
 have e:Nat.beq n 0=false:=Qq oM
 simp only[Zm,Nat.zero_div,Nat.zero_mod,List.getElem?_cons_zero,List.drop_zero,Nat.zero_add,e,cond_false]
 rw[Nat.ble_eq_true_of_le h.2.2.2]
 rfl
theorem Zts {sz off n:Nat} {x:List C} (h:off+n<=sz/\x.length<=sz/\sz<=x.length/\0<n):Zm sz [x] off n=some ((x.drop off).take n):=by
 obtain rfl:sz=x.length:=oM
 have e:Nat.beq n 0=false:=Qq oM
 have e1:off / x.length=0:=Nat.div_eq_of_lt oM
 have e2:off % x.length=off:=Nat.mod_eq_of_lt oM
 simp only[Zm,e1,e2,List.getElem?_cons_zero,e,cond_false]
 rw[Nat.ble_eq_true_of_le oM]
 rfl
theorem Tz {sz:Nat} {l l':List C} (h:l'.length<=sz/\sz<=l'.length/\l.length<=sz/\sz<=l.length/\0<sz):Z0 sz [l] 0 l'=some [l']:=by
 obtain rfl:sz=l'.length:=oM
 exact Wz h.2.2.2.2 oM
theorem Zqa {z x:List C} {n:Nat} (h:x.length<=n/\n<=x.length/\n<=z.length):Eg z 0 n (.g x)=some (x++z.drop n):=by
 unfold Eg
 rw[Zvo,Z8e oM,Qs oM,Bool.and_self,cond_true,List.take_zero,List.nil_append,Nat.zero_add]
theorem Zxs {x z:List C} {c:C} {n:Nat} (h:x.length<=n/\n<=x.length/\z.length<=1/\1<=z.length):Eg (x++z) n 1 (.c c)=some (x++[c]):=by
 unfold Eg
 have e1:(x++z).take n=x:=by rw[show n=x.length by omega,List.take_left']; rfl
 have e2:(x++z).drop (n+1)=[]:=List.drop_of_length_le (by rw[List.length_append]; omega)
 rw[Zvn,e1,e2,Qs (by rw[List.length_append]; omega)]
 show some (x++[c]++[])=_
 rw[List.append_nil]
end
attribute [go_sem] Tz Lm
attribute [go_sem] Z4t Z4u Zyc Zxc Zh2 Zly Zk6 Zht Zfx getM Option.bind_some gOf
attribute [go_sem] Xb Fy Ze2 entriesOf found Te Zaf Yt
open Go.RowKit
section
variable {α:Type}
theorem Tree.Zjj (x y:Option α):∀ (f k:Nat),k<f->Tree.upd x (Tree.path y f k) k=Tree.path x f k
 | 0,_,h=>by omega
 | f+1,k,h=>by
  rw[Tree.Ze1,Tree.Ze1]
  split
  ·rename_i hk
   rw[Tree.Lu,if_pos hk]
  ·rename_i hk
   split
   ·rename_i ho
    rw[Tree.Lu,if_neg hk,if_pos ho,Tree.Zjj x y f (k / 2) oM]
   ·rename_i ho
    rw[Tree.Lu,if_neg hk,if_neg ho,Tree.Zjj x y f (k / 2 - 1) oM]
theorem Tree.Zoh (x y:Option α):∀ (t:Tree α) (k:Nat),Tree.upd x (Tree.upd y t k) k=Tree.upd x t k
 | .nil,k=>by rw[Tree.Zog,Tree.Zog,Tree.Zjj x y (k+1) k oM]
 | .node v l r,k=>by
  rw[Tree.Lu,Tree.Lu]
  split
  ·rename_i hk
   rw[Tree.Lu,if_pos hk]
  ·rename_i hk
   split
   ·rename_i ho
    rw[Tree.Lu,if_neg hk,if_pos ho,Tree.Zoh x y l (k / 2)]
   ·rename_i ho
    rw[Tree.Lu,if_neg hk,if_neg ho,Tree.Zoh x y r (k / 2 - 1)]
end
theorem H.Zdl (h:H) (n:Nat) (a b:O):(h.put n a).put n b=h.put n b:=by
 show (⟨Tree.upd (some b) (Tree.upd (some a) h.m n) n,h.next⟩:H)=⟨Tree.upd (some b) h.m n,h.next⟩
 rw[Tree.Zoh]
section
variable {K:Cfg} {P:Program} {Y:Kn} {f:FuncId} {args:List W} {v:V}
end
section
variable {K:Cfg} {P:Program} {n:Nat} {rd:Option Nat} {b:Code} {ds ds1:List Nat} {ts ts1:Zv} {h h1:H} {Q:X->List Nat->Zv->H->Prop} {id:Nat}
theorem Yg.Zxg {id':Nat} (a1:Yg K P n rd b ds ts h (.exit id') ds1 ts1 h1) (hne:¬id'=id):Yg K P n rd (.block id b) ds ts h (.exit id') ds1 ts1 h1:=by
 intro D ρ w a r m hr hd ht hm hrd
 refine wpIn_block (wpIn_mono (a1 D ρ w a r m hr hd ht hm hrd) ?_)
 rintro e a1 w1 ⟨rfl,rest⟩
 show Exit.inBlock id _ (.exit id') a1 w1
 simp only[Exit.inBlock,if_neg hne]
 exact⟨rfl,rest⟩
theorem Qj (g:Goes K P n rd b ds ts h fun x ds ts h=>match x with
  | .normal=>Q .normal ds ts h
  | .ret=>Q .ret ds ts h
  | .exit id'=>if id'=id then Q .normal ds ts h else Q (.exit id') ds ts h):Goes K P n rd (.block id b) ds ts h Q:=by
 obtain⟨x,ds',ts',h',g1,g2⟩:=g
 cases x with
 | normal=>exact⟨_,_,_,_,Yg.block g1,g2⟩
 | ret=>exact⟨_,_,_,_,Yg.Zkz g1,g2⟩
 | exit id' =>
  simp only at g2
  split at g2
  ·rename_i e
   subst e
   exact⟨_,_,_,_,Yg.Zhh g1,g2⟩
  ·rename_i e
   exact⟨_,_,_,_,Yg.Zxg g1 e,g2⟩
end
open Go.RowKit
section
variable {K:Cfg} {P:Program} {n:Nat} {rd:Option Nat}
theorem Jq {c:Code} {ds:List Nat} {ts:Zv} {h:H} {Q:X->List Nat->Zv->H->Prop} (g:∀ h',h'=h->Goes K P n rd c ds ts h' Q):Goes K P n rd c ds ts h Q:=g h rfl
open Classical in
noncomputable def EC (E:Task->Option Out) (c:Code) (n:Nat) (rd:Option Nat) (Pr:Zv->H->Prop) (F:Zv->H->X × List Nat × Zv × H):Task->Option Out:=fun t=>match t with
 | .code c' n' rd' ds ts h=>if c'=c/\n'=n/\rd'=rd/\ds=[]/\Pr ts h then some (.at (F ts h).1 (F ts h).2.1 (F ts h).2.2.1 (F ts h).2.2.2) else E t
 | t=>E t
theorem Zo9 {E:Task->Option Out} (S:Sound K P E) {c:Code} {Pr:Zv->H->Prop} {F:Zv->H->X × List Nat × Zv × H} (k:∀ ts h,Pr ts h->Yg K P n rd c [] ts h (F ts h).1 (F ts h).2.1 (F ts h).2.2.1 (F ts h).2.2.2):Sound K P (EC E c n rd Pr F):=by
 refine⟨fun f us k0 u k' he=>?_,fun c2 n2 rd2 ds2 ts2 h2 x2 ds3 ts3 h3 he=>?_,fun t o he=>?_⟩
 ·exact S.call f us k0 u k' he
 ·simp only[EC] at he
  split at he
  ·rename_i q
   obtain⟨rfl,rfl,rfl,rfl,p⟩:=q
   cases he
   exact k ts2 h2 p
  ·exact S.code c2 n2 rd2 ds2 ts2 h2 x2 ds3 ts3 h3 he
 ·cases t with
  | call f us k=>exact S.shape _ o he
  | code c2 n2 rd2 ds2 ts2 h2 =>
   simp only[EC] at he
   split at he
   ·cases he
    exact .inr ⟨_,_,_,_,_,_,_,_,_,_,rfl,rfl⟩
   ·exact S.shape _ o he
theorem Zvf (E:Task->Option Out) (c:Code) (n:Nat) (rd:Option Nat) {Pr:Zv->H->Prop} (F:Zv->H->X × List Nat × Zv × H) {ts:Zv} {h:H} (p:Pr ts h):EC E c n rd Pr F (.code c n rd [] ts h)=some (.at (F ts h).1 (F ts h).2.1 (F ts h).2.2.1 (F ts h).2.2.2):=by
 simp [EC,p]
theorem Z4s {E:Task->Option Out} {c c2:Code} {Pr:Zv->H->Prop} {F:Zv->H->X × List Nat × Zv × H} (ne:c2≠c) (n2:Nat) (rd2:Option Nat) (ds2:List Nat) (ts2:Zv) (h2:H):EC E c n rd Pr F (.code c2 n2 rd2 ds2 ts2 h2)=E (.code c2 n2 rd2 ds2 ts2 h2):=by
 simp [EC,ne]
open Classical in
noncomputable def Xe {Q:Zv->H->X->List Nat->Zv->H->Prop} {Pr:Zv->H->Prop} {c:Code} (g:∀ ts h,Pr ts h->Goes K P n rd c [] ts h (Q ts h)) (ts:Zv) (h:H):X × List Nat × Zv × H :=
 if p:Pr ts h then ((g ts h p).ex.choose,(g ts h p).ex.choose_spec.choose,(g ts h p).ex.choose_spec.choose_spec.choose,(g ts h p).ex.choose_spec.choose_spec.choose_spec.choose) else (.normal,[],ts,h)
theorem Zdj {Q:Zv->H->X->List Nat->Zv->H->Prop} {Pr:Zv->H->Prop} {c:Code} (g:∀ ts h,Pr ts h->Goes K P n rd c [] ts h (Q ts h)) {ts:Zv} {h:H} (p:Pr ts h) :
  Yg K P n rd c [] ts h (Xe g ts h).1 (Xe g ts h).2.1 (Xe g ts h).2.2.1 (Xe g ts h).2.2.2/\Q ts h (Xe g ts h).1 (Xe g ts h).2.1 (Xe g ts h).2.2.1 (Xe g ts h).2.2.2:=by
 have e:Xe g ts h=((g ts h p).ex.choose,(g ts h p).ex.choose_spec.choose,(g ts h p).ex.choose_spec.choose_spec.choose,(g ts h p).ex.choose_spec.choose_spec.choose_spec.choose):=by unfold Xe; rw[dif_pos p]
 rw[e]
 exact (g ts h p).ex.choose_spec.choose_spec.choose_spec.choose_spec
theorem rounds {l:Nat} {assign body:Code} (ne:assign≠body) {PA PB:Zv->H->Prop} {QA:Zv->Zv->Prop} {QB:Zv->H->H->Prop}
  (hA:∀ ts h,PA ts h->Goes K P n (some l) assign [] ts h fun x ds' ts' h'=>x=.normal/\ds'=[]/\h'=h/\QA ts ts')
  (hB:∀ ts h,PB ts h->Goes K P n (some l) body [] ts h fun x _ _ h'=>x=.normal/\QB ts h h') :
  ∃ E,Sound K P E/\∀ (us:List W) (h:H) (lts ts1:Zv) (ps:List Tmp) (d:Nat),h.get l=some (.loop lts n ps assign body .ready none d)->Oh n ps us lts=some ts1->PA ts1 h ->
   (∀ ts',QA ts1 ts'->PB ts' (h.put l (.loop lts n ps assign body .busy none d))) ->
   ∃ ts' h',QA ts1 ts'/\QB ts' (h.put l (.loop lts n ps assign body .busy none d)) h' /\
    (h'.get l=some (.loop lts n ps assign body .busy none d)->J5 E l (some us) h (some (.loop lts n ps assign body .ready none d))=some (.val (.w (.c (.bool true))) (h'.put l (.loop lts n ps assign body .ready none d)))):=by
 have SA:=Zo9 (E:=E0) (K:=K) (P:=P) Za fun ts h p=>(Zdj hA p).1
 have SB:=Zo9 SA fun ts h p=>(Zdj hB p).1
 refine⟨_,SB,fun us h lts ts1 ps d hl hz pa pb=>?_⟩
 obtain⟨kA,a1,a2,a3,a4⟩:=Zdj hA pa
 have pB:=pb _ a4
 obtain⟨kB,b1,b2⟩:=Zdj hB pB
 refine⟨_,_,a4,b2,fun hl2=>?_⟩
 have r:=Mj (E:=EC (EC E0 assign n (some l) PA (Xe hA)) body n (some l) PB (Xe hB)) hl hz (ds1:=[]) (ts2:=(Xe hA ts1 h).2.2.1) (h1:=h) (by
  rw[Z4s ne,Zvf _ _ _ _ _ pa,a1,a2,a3]) hl (x:=.normal) (by
  rw[Zvf _ _ _ _ _ pB,b1]) hl2
 rw[hl] at r
 exact r
end
open Go.RowKit
section
variable {K:Cfg} {P:Program} {Y:Kn} {f:FuncId} {args:List W} {v:V}
theorem Zm1 {G:Nat} (hg:K.globs=Tree.set .nil G 0) {W:World} {cs:Array Value} {t:TypeId} {fr:Nat × Nat} (hb:W.heap[G]? = some (.cells cs t fr)) (hcs:cs.toList=steps16.map (Value.int .u32))
  {h':H} (c:Zx K P f args Wi (.w (.c (.bool true))) h') {vals:List Value} (ha:Yq (Jv (Vj G)) args vals) :
  Calls P f vals.toArray W fun e W'=>e=.returned (.bool true)/\Below W.heap.size W W':=by
 have hd:Dom (Vj G) Wi.next:=fun n hn=>by
  have:n≠0:=by have:1<=n:=hn; omega
  simp [Vj,this]
 have:=c.2 (Vj G) W vals none 0 (Ze6 hg hb hcs) hd ha
 refine (callsIn_wide.1 (show CallsIn Fence.wide 0 P f vals.toArray W _ from this)).mono ?_
 rintro e W' ⟨ρ',val,rfl,aft,hv⟩
 have e:val=.bool true:=hv
 subst e
 refine⟨rfl,aft.fr.os,aft.fr.tape,aft.fr.output,aft.fr.size,fun k hk=>aft.fr.keep k hk ?_⟩
 rintro⟨m,o,l,ho,hro,_⟩
 obtain⟨rfl,rfl⟩:=Fu ho
 cases hro
end
noncomputable def Z2t:Option Out->Option (Int × List (List C))
 | some (.val (.tup [.c (.int .i64 p),.c s,.c (.int .i64 0)]) h)=>match s with
  | .snil=>some (p,[])
  | .slice n 0 len 1=>match h.get n with
   | some (.row 1 els false)=>bif Nat.ble 1 n&&Nat.blt n h.next&&Nat.ble 1 els.length&&Nat.beq els.length len&&els.all (fun l=>l.all C.flat) then some (p,els) else none
   | _=>none
  | _=>none
 | _=>none
theorem Zyq {o:Option Out} {p:Int} {els:List (List C)} (e:Z2t o=some (p,els)):∃ h s,o=some (.val (.tup [.c (.int .i64 p),.c s,.c (.int .i64 0)]) h)/\((els=[]/\s=.snil)\/∃ n,1<=n/\n<h.next/\s=.slice n 0 els.length 1/\h.get n=some (.row 1 els false)/\els.all (fun l=>l.all C.flat)=true/\1<=els.length):=by
 unfold Z2t at e
 split at e
 ·rename_i p' s h
  split at e
  ·cases e; exact⟨h,.snil,rfl,.inl ⟨rfl,rfl⟩⟩
  ·rename_i n len
   split at e
   ·rename_i els' ho
    cases hb:(Nat.ble 1 n&&Nat.blt n h.next&&Nat.ble 1 els'.length&&Nat.beq els'.length len&&els'.all (fun l=>l.all C.flat)) with
    | false=>rw[hb] at e; cases e
    | true =>
     rw[hb] at e
     cases e
     simp only[aQ] at hb
     obtain⟨⟨⟨⟨b1,b2⟩,b3⟩,b4⟩,b5⟩:=hb
     obtain rfl:=bQ b4
     exact⟨h,_,rfl,.inr ⟨n,lQ b1,by simpa [Nat.blt_eq] using b2,rfl,ho,b5,lQ b3⟩⟩
   ·cases e
  ·cases e
 ·cases e
section
variable {K:Cfg} {P:Program} {Y:Kn} {f:FuncId} {args:List W}
theorem Zx.Z5m (F:Fits K P) (Hh:Hearts K P) (hY:Zch K P Y) {G:Nat} (hg:K.globs=Tree.set .nil G 0) {n:Nat} {p:Int} {els:List (List C)} (e:Z2t (evX K Y n (.call f args ⟨.nil,1⟩))=some (p,els)) (ha:args.all W.flat=true) (h:H) (hpos:0<h.next) :
  ∃ h' s,Zx K P f args h (.tup [.c (.int .i64 p),.c s,.c (.int .i64 0)]) h'/\h.next<=h'.next/\(∀ m,m<h.next->h'.get m=h.get m)/\((els=[]/\s=.snil)\/∃ q,h.next<=q/\q<h'.next/\s=.slice q 0 els.length 1/\h'.get q=some (.row 1 els false)/\1<=els.length):=by
 obtain⟨h1,s,e1,hs⟩:=Zyq e
 have c0:Zx K P f args ⟨.nil,1⟩ (.tup [.c (.int .i64 p),.c s,.c (.int .i64 0)]) h1:=(Mc F Hh hY n).call f args _ _ _ e1
 have none0:∀ n o,¬ (⟨.nil,1⟩:H).get n=some o:=fun n o hn=>by cases hn
 have L:Lies K (fun n=>if n<1 then n else h.next+(n - 1)) ⟨.nil,1⟩ h:=by
  refine⟨fun n hn=>if_neg (by have:1<=n:=hn; omega),fun n hn=>?_,fun n o ho=>(none0 n o ho).elim,fun n n' o o' ho=>(none0 n o ho).elim,fun g n hgn=>?_⟩
  ·show (if n<1 then n else _)<h.next
   have:n<1:=hn
   rw[if_pos this]
   omega
  ·rw[(Sj hg hgn).2]; rfl
 rcases hs with ⟨rfl,rfl⟩|⟨k,k1,k2,rfl,ho,hfl,el⟩
 ·have c1:=c0.frame L (h':=⟨h.m,h.next+(h1.next - 1)⟩) ⟨rfl,fun m o ho=>.inl ⟨ho,fun n o' ho'=>(none0 n o' ho').elim⟩⟩
  rw[Jr (fun a ha=>W.Jj ha _) ha] at c1
  exact⟨⟨h.m,h.next+(h1.next - 1)⟩,.snil,c1,Nat.le_add_right _ _,fun m _=>rfl,.inl ⟨rfl,rfl⟩⟩
 ·have fl:∀ σ:Nat->Nat,(O.row 1 els false).ren σ=.row 1 els false:=fun σ=>by
   show O.row 1 (els.map (List.map (C.ren σ))) false=_
   rw[Jr (fun l hl=>Jr (fun a ha=>C.Jj ha _) hl) hfl]
  have sk:(if k<1 then k else h.next+(k - 1))=h.next+(k - 1):=if_neg oM
  have c1:=c0.frame L (h':=(⟨h.m,h.next+(h1.next - 1)⟩:H).put (h.next+(k - 1)) (.row 1 els false)) ⟨rfl,fun m o ho'=>by
   rw[H.get_put] at ho'
   split at ho'
   ·rename_i hm
    cases ho'
    exact .inr ⟨k,_,ho,rfl,rfl,by show (if k<1 then k else h.next+(k - 1))=m; rw[sk,hm],(fl _).symm⟩
   ·exact .inl ⟨ho',fun n o' ho2=>(none0 n o' ho2).elim⟩⟩
  rw[Jr (fun a ha=>W.Jj ha _) ha] at c1
  refine⟨(⟨h.m,h.next+(h1.next - 1)⟩:H).put (h.next+(k - 1)) (.row 1 els false),.slice (h.next+(k - 1)) 0 els.length 1,?_,Nat.le_add_right h.next _,fun m hm=>by rw[Zc oM]; rfl,.inr ⟨h.next+(k - 1),Nat.le_add_right _ _,by rw[H.Zf]; show h.next+(k - 1)<h.next+(h1.next - 1); omega,rfl,Zz ..,el⟩⟩
  have ev:(V.tup [.c (.int .i64 p),.c (.slice k 0 els.length 1),.c (.int .i64 0)]).ren (fun n=>if n<1 then n else h.next+(n - 1))=.tup [.c (.int .i64 p),.c (.slice (h.next+(k - 1)) 0 els.length 1),.c (.int .i64 0)]:=by
   show V.tup [.c (.int .i64 p),.c (.slice (if k<1 then k else h.next+(k - 1)) 0 els.length 1),.c (.int .i64 0)]=_
   rw[sk]
  rw[ev] at c1
  exact c1
end
open Go.RowKit
section
variable {K:Cfg} {P:Program}
theorem Zx.Zwc {f:FuncId} {args:List W} {h:H} {v:V} (hc:Oz P f) (q:∀ ρ w vals,Rep K ρ h w->Yq (Jv ρ) args vals->∃ val,Gb ρ v val/\Calls P f vals.toArray w fun e w'=>e=.returned val/\w'=w):Zx K P f args h v h:=by
 refine⟨hc,fun ρ w vals r m hr hd ha=>?_⟩
 obtain⟨val,hv,k⟩:=q ρ w vals hr ha
 refine (R8 k).mono ?_
 rintro e w' ⟨rfl,rfl⟩
 exact⟨ρ,_,rfl,Aft.refl hr,hv⟩
theorem Zx.Z12 {f:FuncId} {args:List W} {h:H} {v:V} (hc:Oz P f) (q:∀ ρ w vals,Rep K ρ h w->Yq (Jv ρ) args vals->∃ val,Gb ρ v val/\Calls P f vals.toArray w fun e w'=>e=.returned val/\Below w.heap.size w w'):Zx K P f args h v h:=by
 refine⟨hc,fun ρ w vals r m hr hd ha=>?_⟩
 obtain⟨val,hv,k⟩:=q ρ w vals hr ha
 refine (R8 k).mono ?_
 rintro e w' ⟨rfl,b⟩
 refine⟨ρ,_,rfl,⟨Ren.le.refl _,New.refl _ _ _,⟨hr.glob,fun n o ho=>?_,hr.inj⟩,⟨b.os,b.tape,b.output,b.size,fun k hk _=>b.block k hk,fun k hk=>.inr hk,fun n o ho _=>ho⟩,Nat.le_refl _⟩,hv⟩
 obtain⟨l,hl,hor⟩:=hr.obj n o ho
 exact⟨l,hl,hor.congr (b.block _ hor.lt)⟩
end
noncomputable def Yap (sz:Nat):Option Out->Option (List (List C))
 | some (.val (.w (.c (.slice n 0 len sz'))) h)=>match h.get n with
  | some (.row sz'' els false)=>bif Nat.beq sz sz'&&Nat.beq sz sz''&&Nat.ble 1 n&&Nat.blt n h.next&&Nat.beq els.length len&&els.all (fun l=>l.all C.flat) then some els else none
  | _=>none
 | _=>none
theorem Zyp {o:Option Out} {sz:Nat} {els:List (List C)} (e:Yap sz o=some els):∃ h n,o=some (.val (.w (.c (.slice n 0 els.length sz))) h)/\1<=n/\n<h.next/\h.get n=some (.row sz els false)/\els.all (fun l=>l.all C.flat)=true:=by
 unfold Yap at e
 split at e
 ·rename_i n len sz' h
  split at e
  ·rename_i sz'' els' ho
   cases hb:(Nat.beq sz sz'&&Nat.beq sz sz''&&Nat.ble 1 n&&Nat.blt n h.next&&Nat.beq els'.length len&&els'.all (fun l=>l.all C.flat)) with
   | false=>rw[hb] at e; cases e
   | true =>
    rw[hb] at e
    cases e
    simp only[aQ] at hb
    obtain⟨⟨⟨⟨⟨b0,b1⟩,b2⟩,b3⟩,b4⟩,b5⟩:=hb
    obtain rfl:=bQ b0
    obtain rfl:=bQ b1
    obtain rfl:=bQ b4
    exact⟨h,n,rfl,lQ b2,by simpa [Nat.blt_eq] using b3,ho,b5⟩
  ·cases e
 ·cases e
section
variable {K:Cfg} {P:Program} {Y:Kn} {f:FuncId} {args:List W}
theorem Zx.Z5l (F:Fits K P) (Hh:Hearts K P) (hY:Zch K P Y) {G:Nat} (hg:K.globs=Tree.set .nil G 0) {n sz:Nat} {els:List (List C)} (e:Yap sz (evX K Y n (.call f args ⟨.nil,1⟩))=some els) (ha:args.all W.flat=true) (h:H) :
  Zx K P f args h (.w (.c (.slice h.next 0 els.length sz))) (h.new (.row sz els false)):=by
 obtain⟨h1,k,e1,k1,k2,ho,hfl⟩:=Zyp e
 have c0:Zx K P f args ⟨.nil,1⟩ (.w (.c (.slice k 0 els.length sz))) h1:=(Mc F Hh hY n).call f args _ _ _ e1
 refine Zx.pos c0.1 (Zia hg) fun hpos=>?_
 have none0:∀ n o,¬ (⟨.nil,1⟩:H).get n=some o:=fun n o hn=>by cases hn
 have L:Lies K (fun n=>if n<1 then n else h.next+(n - 1)) ⟨.nil,1⟩ h:=by
  refine⟨fun n hn=>if_neg (by have:1<=n:=hn; omega),fun n hn=>?_,fun n o ho=>(none0 n o ho).elim,fun n n' o o' ho=>(none0 n o ho).elim,fun g n hgn=>?_⟩
  ·show (if n<1 then n else _)<h.next
   have:n<1:=hn
   rw[if_pos this]
   omega
  ·rw[(Sj hg hgn).2]; rfl
 have fl:∀ σ:Nat->Nat,(O.row sz els false).ren σ=.row sz els false:=fun σ=>by
  show O.row sz (els.map (List.map (C.ren σ))) false=_
  rw[Jr (fun l hl=>Jr (fun a ha=>C.Jj ha _) hl) hfl]
 have sk:(if k<1 then k else h.next+(k - 1))=h.next+(k - 1):=if_neg oM
 have c1:=c0.frame L (h':=(⟨h.m,h.next+(h1.next - 1)⟩:H).put (h.next+(k - 1)) (.row sz els false)) ⟨rfl,fun m o ho'=>by
  rw[H.get_put] at ho'
  split at ho'
  ·rename_i hm
   cases ho'
   exact .inr ⟨k,_,ho,rfl,rfl,by show (if k<1 then k else h.next+(k - 1))=m; rw[sk,hm],(fl _).symm⟩
  ·exact .inl ⟨ho',fun n o' ho2=>(none0 n o' ho2).elim⟩⟩
 rw[Jr (fun a ha=>W.Jj ha _) ha] at c1
 have ev:(V.w (.c (.slice k 0 els.length sz))).ren (fun n=>if n<1 then n else h.next+(n - 1))=.w (.c (.slice (h.next+(k - 1)) 0 els.length sz)):=by
  show V.w (.c (.slice (if k<1 then k else h.next+(k - 1)) 0 els.length sz))=_
  rw[sk]
 rw[ev] at c1
 exact c1.row1 (Nat.le_add_right _ _) (Zz ..) hfl (by rw[H.Zf]; show h.next+(k - 1)<h.next+(h1.next - 1); omega) (fun m hm=>by rw[Zc oM]; rfl)
end
theorem Zim (a x:Int):∀ l:List Int,x∈Zc8 a l ↔ x=a\/x∈l
 | []=>by simp [Zc8]
 | b :: l=>by
  unfold Zc8
  split
  ·simp
  ·rw[List.mem_cons,Zim a x l,List.mem_cons]
   constructor
   ·rintro (h|h|h)
    ·exact .inr (.inl h)
    ·exact .inl h
    ·exact .inr (.inr h)
   ·rintro (h|h|h)
    ·exact .inr (.inl h)
    ·exact .inl h
    ·exact .inr (.inr h)
theorem Zqo (a:Int):∀ l:List Int,(Zc8 a l).length=l.length+1
 | []=>rfl
 | b :: l=>by
  unfold Zc8
  split
  ·rfl
  ·rw[List.length_cons,Zqo a l]; rfl
def Tp:G9->List Int
 | []=>[]
 | (k,_) :: l=>Zc8 k (Tp l)
theorem Qe:∀ {l:G9},(∀ p∈l,Rn p.1=true)->En (Uv l)=some (Tp l)
 | [],_=>rfl
 | (k,x) :: l,h=>by
  show (bif Rn k then (match En (Uv l) with
   | none=>none
   | some r=>some (Zc8 k r)) else none)=_
  rw[h (k,x) (by simp),Qe (fun p hp=>h p (by simp [hp]))]
  rfl
theorem Za7:∀ l:G9,(Tp l).length=l.length
 | []=>rfl
 | (k,_) :: l=>by rw[Tp,Zqo,Za7 l]; rfl
theorem Zlq {k:Int}:∀ {l:G9},k∈Tp l ↔ (Jd k l).isSome=true
 | []=>by simp [Tp,Jd]
 | (j,y) :: l=>by
  rw[Tp,Zim,Zlq (l:=l)]
  show _ ↔ (bif k == j then some y else Jd k l).isSome=true
  by_cases e:k=j
  ·rw[Q9 e]; simp [e]
  ·rw[Db e]; simp [e]
open Go.RowKit
def Zgq (o:Oper):Option Operand:=match o.op,o.guard,o.dst with
 | .defer c,none,none=>match c.callee,c.args.toList with
  | .value f,[]=>some f
  | _,_=>none
 | _,_,_=>none
def Ze9:List Oper->Option (List Oper × Operand)
 | []=>none
 | [o]=>match Zgq o with
  | some f=>some ([],f)
  | none=>none
 | o :: l=>match Ze9 l with
  | some (p,f)=>some (o :: p,f)
  | none=>none
def Zty:Code->Option (Array Oper × List Oper × Operand)
 | .region _ ops false=>match Ze9 ops.toList with
  | some (p,f)=>some (ops,p,f)
  | none=>none
 | _=>none
def toEnd:X->Bool
 | .normal=>true
 | .ret=>true
 | .exit _=>false
noncomputable def Z2v (K:Cfg) (fn:Func) (ts:Zv):Option H->Option (V × H)
 | some h=>match Jb K h ts fn.results.toList with
  | some vs=>some (Ue vs,h)
  | none=>none
 | none=>none
section
variable {K:Cfg} {P:Program} {E:Task->Option Out} {ρ:Ren} {h h':H} {w:World} {ts:Zv} {n:Nat}
theorem Zl7:∀ {l p:List Oper} {f:Operand},Ze9 l=some (p,f)->∃ o,l=p++[o]/\Zgq o=some f
 | [],p,f,e=>by simp [Ze9] at e
 | [o],p,f,e=>by
  simp only[Ze9] at e
  split at e
  ·rename_i g hg
   cases e
   exact⟨o,rfl,hg⟩
  ·cases e
 | o :: o2 :: l,p,f,e=>by
  simp only[Ze9] at e
  split at e
  ·rename_i q g hg
   cases e
   obtain⟨o',h1,h2⟩:=Zl7 hg
   exact⟨o',by rw[h1]; rfl,h2⟩
  ·cases e
theorem Zso {o:Oper} {f:Operand} (e:Zgq o=some f):∃ tys,o.op=.defer ⟨.value f,#[],tys⟩/\o.guard=none/\o.dst=none:=by
 unfold Zgq at e
 split at e
 ·rename_i c h1 h2 h3
  split at e
  ·rename_i g h4 h5
   cases e
   obtain⟨callee,args,tys⟩:=c
   simp only at h4 h5
   subst h4
   have:args = #[]:=by apply Array.ext'; exact h5
   subst this
   exact⟨tys,h1,h2,h3⟩
  ·cases e
 ·cases e
theorem Zdc {fn:Func} {tmps:Array Value} {R:Ending->World->Prop} {r:Option Nat} {m:Nat} {D:List Deferred}:∀ (ds:List Nat) (dl:List Deferred) (h:H) (w:World),Jg ds h=some h'->Marks ρ D ds dl->Rep K ρ h w ->
  (∀ w',Aft K ρ h w ρ h' w'->LeavesInM (Wd r) m P fn tmps R D .returning w')->LeavesInM (Wd r) m P fn tmps R dl .returning w
 | [],dl,h,w,ht,hm,hr,hR=>by
  obtain⟨dl',e1,q⟩:=hm
  cases dl' with
  | cons _ _=>exact q.elim
  | nil =>
   simp [Jg] at ht
   subst ht
   rw[e1]
   exact hR w (Aft.refl hr)
 | d :: ds,dl,h,w,ht,hm,hr,hR=>by
  obtain⟨dl',e1,q⟩:=hm
  cases dl' with
  | nil=>exact q.elim
  | cons df dl' =>
   obtain⟨⟨l,hl,rfl⟩,q'⟩:=q
   have hm':Marks ρ D ds (dl'++D):=⟨dl',rfl,q'⟩
   rw[e1]
   simp only[Jg] at ht
   split at ht
   ·rename_i ho
    obtain⟨l',hl',hor⟩:=hr.obj d _ ho
    rw[hl] at hl'
    cases hl'
    have hlt:=hor.lt
    have hb:w.heap[l.blk]? = some (.deferred (some [])):=hor
    let w1:World:={ w with heap:=w.heap.setIfInBounds l.blk (.deferred none) }
    have hrun:(Instr.takeDeferred l.blk).run P w=.ok [] w1:=by
     simp [Instr.takeDeferred,getObj,setObj,Sem.run,hb,w1]
    have haft:Aft K ρ h w ρ (h.del d) w1:=by
     have hsub:∀ m x,(h.del d).get m=some x->m≠d/\h.get m=some x:=fun m x hx=>by
      rw[H.D5] at hx
      split at hx
      ·cases hx
      ·rename_i e; exact⟨e,hx⟩
     refine⟨Ren.le.refl _,New.refl _ _ _,⟨hr.glob,fun m x hx=>?_,fun m m' x x' lm lm' hne hx hx'=>hr.inj m m' x x' lm lm' hne (hsub m x hx).2 (hsub m' x' hx').2⟩,⟨rfl,rfl,rfl,by simp [w1],fun k hk hn=>?_,fun k hk=>?_,fun m x hx _=>(hsub m x hx).2⟩,Nat.le_refl _⟩
     ·obtain⟨e,hx'⟩:=hsub m x hx
      obtain⟨lm,hlm,hrm⟩:=hr.obj m x hx'
      refine⟨lm,hlm,hrm.congr ?_⟩
      have hne:=hr.inj m d x _ lm l e hx' ho hlm hl (.inr rfl)
      simp [w1,Ne.symm hne]
     ·have hne:k≠l.blk:=fun e=>hn ⟨d,_,l,ho,rfl,hl,e.symm⟩
      simp [w1,Ne.symm hne]
     ·obtain⟨m,x,lm,hx,r⟩:=hk
      exact .inr ⟨m,x,lm,(hsub m x hx).2,r⟩
    refine⟨by simp,.inl ⟨l.blk,w1,rfl,hrun,?_⟩⟩
    exact Zdc ds (dl'++D) (h.del d) w1 ht hm' haft.rep (fun w' ha=>hR w' (haft.trans ha))
   ·cases ht
theorem Zix (F:Fits K P) (S:Sound K P E) {ops:Array Oper} {Q:Exit->Act->World->Prop} {r:Option Nat} {m:Nat} {rest:List Oper} {ts':Zv}:∀ (l:List Oper) (ts:Zv) (h:H) (ρ:Ren) (w:World) (a:Act),Fw K E ops.toList n l ts h=some (ts',h')->Rep K ρ h w->Dom ρ h.next->Gx ρ n ts a.tmps ->
  (∀ ρ' a' w',Aft K ρ h w ρ' h' w'->Gx ρ' n ts' a'.tmps->a'.defers=a.defers->wpListIn (Wd r) m P ops Q rest a' w')->wpListIn (Wd r) m P ops Q (l++rest) a w
 | [],ts,h,ρ,w,a,hv,hr,hd,ht,hq=>by
  rw[Zen] at hv
  cases hv
  exact hq ρ a w (Aft.refl hr) ht rfl
 | o :: l,ts,h,ρ,w,a,hv,hr,hd,ht,hq=>by
  rw[X8] at hv
  split at hv
  ·rename_i ts1 h1 h1e
   rw[List.cons_append]
   refine wpListIn_step (fun Kn hK=>?_)
   refine Zls F S hr hd ht h1e (fun ρ1 a1 w1 aft1 tr1 df1=>hK _ _ ?_)
   refine Zix F S l ts1 h1 ρ1 w1 a1 hv aft1.rep (aft1.dom hd) tr1 (fun ρ2 a2 w2 aft2 tr2 df2=>?_)
   exact hq ρ2 a2 w2 (aft1.trans aft2) tr2 (df2.trans df1)
  ·cases hv
theorem Ztt {fn:Func} {ts:Zv} {oh:Option H} {v:V} (e:Z2v K fn ts oh=some (v,h')):∃ vs,oh=some h'/\Jb K h' ts fn.results.toList=some vs/\v=Ue vs:=by
 unfold Z2v at e
 split at e
 ·split at e
  ·rename_i vs hvs
   cases e
   exact⟨vs,rfl,hvs,rfl⟩
  ·cases e
 ·cases e
end
open Go.RowKit
section
variable {K:Cfg} {P:Program} {ρ:Ren} {h h':H} {w:World}
def Zg6 (K:Cfg) (P:Program) (g:FuncId) (args:List W) (h h':H):Prop:=∃ fg body x ts3 vs,K.funcs.get g=some fg/\fg.body=some body/\Nat.ble args.length fg.ntmps=true/\Yg K P fg.ntmps none body [] (Ug 0 args .nil) h x [] ts3 h'/\toEnd x=true/\Jb K h' ts3 fg.results.toList=some vs
theorem Zpv (F:Fits K P) {fn:Func} {tmps:Array Value} {R:Ending->World->Prop} {m:Nat} {g:FuncId} {first caps:List (Option (Nat × Nat))} {fa ca:Array Value} (hr:Rep K ρ h w) (hd:Dom ρ h.next) (h1:Yq (Rh ρ) first fa.toList) (h2:Yq (Rh ρ) caps ca.toList)
  (he:Zg6 K P g (O1 [] first caps) h h') (hR:∀ ρ' w',Aft K ρ h w ρ' h' w'->∃ v,(results fn tmps).run P w'=.ok v w'/\R (.returned v) w') :
  LeavesInM (Wd none) m P fn tmps R [{ target:=.fn (.func g) ca,args:=fa }] .returning w:=by
 obtain⟨fg,body,x,ts3,vs,hfg,hbody,hb,hE,hx,hvs⟩:=he
 have hcal:Oz P g:=⟨fg,F.funcs g fg hfg,by rw[hbody]; rfl,F.names g fg hfg⟩
 have hall:Yq (Jv ρ) (O1 [] first caps) (fa.toList++[]++ca.toList):=((Xg h1).append (show Yq (Jv ρ) [] [] from trivial)).append (Xg h2)
 have harr:(fa.toList++[]++ca.toList).toArray=fa++ca:=by
  apply Array.ext'
  simp
 have hcode:=hE [] ρ w { tmps:=(fa.toList++[]++ca.toList).toArray++Array.replicate (fg.ntmps - (fa.toList++[]++ca.toList).toArray.size) Go.undef,defers:=[] } none (m - 1) hr hd (Zg9 hall (U8 hb)) (Marks.nil _ _) trivial
 rw[harr] at hcode
 refine⟨by simp,.inr ⟨fun hh=>by simp [Wd,Fence.wide] at hh,.func g,ca,g,fa++ca,rfl,?_,fun _ _=>trivial,?_⟩⟩
 ·have:=Uy hcal (fa++ca) w
  simpa [invoke] using this
 ·have hD:=callsDIn_of_wp (R:=fun e w'=>(∃ v,e=.returned v)/\∃ ρ',Aft K ρ h w ρ' h' w') (u:=.returning) (F.funcs g fg hfg) hbody trivial (wpIn_mono hcode (by
   rintro e a w1 ⟨rfl,ρ1,aft1,tr1,dl,e1,q⟩
   obtain⟨val,hv1,_⟩:=Zam F aft1.rep tr1 hvs
   have hdl:a.defers=[]:=by
    cases dl with
    | nil=>exact e1
    | cons _ _=>exact q.elim
   cases x with
   | normal=>exact⟨hdl,val,hv1,⟨_,rfl⟩,ρ1,aft1⟩
   | ret=>exact⟨hdl,val,hv1,⟨_,rfl⟩,ρ1,aft1⟩
   | exit id=>cases hx))
  refine hD.mono ?_
  rintro e u' w1 ⟨rfl,⟨v,rfl⟩,ρ1,aft1⟩
  exact hR ρ1 w1 aft1
inductive SpineR (K:Cfg) (P:Program) (fn:Func):Code->Zv->H->V->H->Prop where
 | ret {a b:Code} {ts ts1:Zv} {h h1 h':H} {ds:List Nat} {v:V}:Yg K P fn.ntmps none a [] ts h .ret ds ts1 h1->Z2v K fn ts1 (Jg ds h1)=some (v,h')->SpineR K P fn (.seq a b) ts h v h'
 | go {a b:Code} {ts ts1:Zv} {h h1 h':H} {v:V}:Yg K P fn.ntmps none a [] ts h .normal [] ts1 h1->SpineR K P fn b ts1 h1 v h'->SpineR K P fn (.seq a b) ts h v h'
 | push {a b:Code} {ops:Array Oper} {p:List Oper} {f:Operand} {E:Task->Option Out} {g:FuncId} {first caps:List (Option (Nat × Nat))} {x:X} {ds:List Nat} {ts ts1 ts2:Zv} {h h1 h2 h3 h':H} {vs:List W}:Zty a=some (ops,p,f)->Sound K P E->Fw K E ops.toList fn.ntmps p ts h=some (ts1,h1)->Z4 K ts1 f=some (.fn g first caps)->Yg K P fn.ntmps none b [] ts1 h1 x ds ts2 h2->toEnd x=true->Jg ds h2=some h3->Zg6 K P g (O1 [] first caps) h3 h'->Jb K h' ts2 fn.results.toList=some vs->SpineR K P fn (.seq a b) ts h (Ue vs) h'
theorem Zyv (F:Fits K P) {fn:Func} {ρ0:Ren} {h0:H} {w0:World} {v:V} {m:Nat} (hd0:Dom ρ0 h0.next) {c:Code} {ts:Zv} {h:H} (s:SpineR K P fn c ts h v h'):∀ (ρ:Ren) (w:World) (act:Act),Aft K ρ0 h0 w0 ρ h w->Gx ρ fn.ntmps ts act.tmps->act.defers=[] ->
  c.wpIn (Wd none) m P (bodyPostM (Wd none) m P fn (R3 K ρ0 h0 w0 v h')) act w:=by
 induction s with
 | ret hE hv =>
  rename_i a b ts ts1 h h1 h' ds v
  intro ρ w act aft0 tr hdf
  have hd:=aft0.dom hd0
  obtain⟨vs,htm,hvs,rfl⟩:=Ztt hv
  refine wpIn_seq (wpIn_mono (hE [] ρ w act none m aft0.rep hd tr (by rw[hdf]; exact Marks.nil _ _) trivial) ?_)
  rintro e a1 w1 ⟨rfl,ρ1,aft1,tr1,mk1⟩
  have hl2:LeavesInM (Wd none) m P fn a1.tmps (R3 K ρ0 h0 w0 (Ue vs) h') a1.defers .returning w1:=Zad F ds a1.defers h1 ρ1 w1 htm mk1 aft1.rep tr1 hvs (fun w' val aft2 hcon=>⟨ρ1,val,rfl,(aft0.trans aft1).trans aft2,hcon⟩)
  exact hl2
 | go hE hs ih =>
  rename_i a b ts ts1 h h1 h' v
  intro ρ w act aft0 tr hdf
  have hd:=aft0.dom hd0
  refine wpIn_seq (wpIn_mono (hE [] ρ w act none m aft0.rep hd tr (by rw[hdf]; exact Marks.nil _ _) trivial) ?_)
  rintro e a1 w1 ⟨rfl,ρ1,aft1,tr1,dl,e1,q⟩
  show b.wpIn (Wd none) m P _ a1 w1
  refine ih ρ1 w1 a1 (aft0.trans aft1) tr1 ?_
  cases dl with
  | nil=>exact e1
  | cons _ _=>exact q.elim
 | push hsp S hE1 hcl hE2 hx htm hcl2 hvs =>
  rename_i a b ops p f E g first caps x ds ts ts1 ts2 h h1 h2 h3 h' vs
  intro ρ w act aft0 tr hdf
  have hd:=aft0.dom hd0
  unfold Zty at hsp
  split at hsp
  ·rename_i id ops0
   split at hsp
   ·rename_i p0 f0 hsd
    cases hsp
    obtain⟨o,hl,hdo⟩:=Zl7 hsd
    obtain⟨tys,hop,hgd,hdst⟩:=Zso hdo
    refine wpIn_seq (wpIn_region_list ?_)
    rw[hl]
    refine Zix F S p ts h ρ w act hE1 aft0.rep hd tr (fun ρ1 a1 w1 aft1 tr1 df1=>?_)
    have hd1:=aft1.dom hd
    obtain⟨fa,ca,hfv,q1,q2⟩:=(N8 aft1.rep tr1).c hcl
    refine wpListIn_step (fun Kn hK=>?_)
    have hw:Region.wanted o (yielded ops a1.tmps)=true:=by simp [Region.wanted,hgd]
    rw[hw,if_pos rfl]
    refine⟨fun _ _=>trivial,?_⟩
    have hrun:(o.semAt (Wd none).round a1.eval).run P w1=.ok (.defer { target:=.fn (.func g) ca,args:=fa }) w1:=by
     show (execOp a1.eval o).run P w1=_
     simp [execOp,hop,resolve,hfv,Deferred.ofValue]
    rw[hrun,Oper.uponIn_defer,hdst]
    refine hK _ _ (wpListIn_nil ?_)
    have e1:({ a1 with defers:={ target:=.fn (.func g) ca,args:=fa } :: a1.defers }:Act).put none Go.undef = { a1 with defers:=[{ target:=.fn (.func g) ca,args:=fa }] }:=by
     rw[df1,hdf]
     rfl
    rw[e1]
    show b.wpIn (Wd none) m P _ _ w1
    refine wpIn_mono (hE2 [{ target:=.fn (.func g) ca,args:=fa }] ρ1 w1 { a1 with defers:=[{ target:=.fn (.func g) ca,args:=fa }] } none m aft1.rep hd1 tr1 (Marks.nil _ _) trivial) ?_
    rintro e a3 w3 ⟨rfl,ρ2,aft2,tr2,mk2⟩
    have hl2:LeavesInM (Wd none) m P fn a3.tmps (R3 K ρ0 h0 w0 (Ue vs) h') a3.defers .returning w3:=by
     refine Zdc ds a3.defers h2 w3 htm mk2 aft2.rep (fun w4 aft4=>?_)
     have aft24:=aft2.trans aft4
     refine Zpv F aft4.rep (aft24.dom hd1) (q1.mono (fun _ _=>Rh.mono aft24.le)) (q2.mono (fun _ _=>Rh.mono aft24.le)) hcl2 (fun ρ5 w5 aft5=>?_)
     obtain⟨val,hr1,hr2⟩:=Zam F aft5.rep (tr2.mono (aft4.trans aft5).le) hvs
     exact⟨val,hr1,ρ5,val,rfl,((aft0.trans aft1).trans aft24).trans aft5,hr2⟩
    cases x with
    | normal=>exact hl2
    | ret=>exact hl2
    | exit id=>cases hx
   ·cases hsp
  ·cases hsp
theorem Zx.spine (F:Fits K P) {f:FuncId} {fn:Func} {body:Code} {args:List W} {v:V} (s:SpineR K P fn body (Ug 0 args .nil) h v h') (hf:K.funcs.get f=some fn) (hbody:fn.body=some body) (hb:Nat.ble args.length fn.ntmps=true):Zx K P f args h v h':=by
 refine⟨⟨fn,F.funcs f fn hf,by rw[hbody]; rfl,F.names f fn hf⟩,fun ρ w vals r m hr hd hall=>?_⟩
 have:CallsIn (Wd none) m P f vals.toArray w (R3 K ρ h w v h') :=
  callsIn_of_wp_marks (F.funcs f fn hf) hbody trivial (Zyv F hd s ρ w { tmps:=vals.toArray++Array.replicate (fn.ntmps - vals.toArray.size) Go.undef,defers:=[] } (Aft.refl hr) (Zg9 hall (U8 hb)) rfl)
 exact this
theorem Zx.Yay (F:Fits K P) {f:FuncId} {fn:Func} {body:Code} {args:List W} {R:V->H->Prop} (s:∃ v h',SpineR K P fn body (Ug 0 args .nil) h v h'/\R v h') (hf:K.funcs.get f=some fn) (hbody:fn.body=some body) (hb:Nat.ble args.length fn.ntmps=true):∃ v h',Zx K P f args h v h'/\R v h':=by
 obtain⟨v,h',s,r⟩:=s
 exact⟨v,h',Zx.spine F s hf hbody hb,r⟩
theorem SpineR.goE {fn:Func} {a b:Code} {ts:Zv} {R:V->H->Prop} (g:Goes K P fn.ntmps none a [] ts h fun x ds' ts1 h1=>x=.normal/\ds'=[]/\∃ v h',SpineR K P fn b ts1 h1 v h'/\R v h'):∃ v h',SpineR K P fn (.seq a b) ts h v h'/\R v h':=by
 obtain⟨x,ds',ts1,h1,c,rfl,rfl,v,h',s,r⟩:=g
 exact⟨v,h',.go c s,r⟩
theorem SpineR.Yc5 {fn:Func} {a b:Code} {ts ts1:Zv} {h1:H} {R:V->H->Prop} {ops:Array Oper} {p:List Oper} {f:Operand} {E:Task->Option Out} {g:FuncId} {first caps:List (Option (Nat × Nat))} (S:Sound K P E) (hs:Zty a=some (ops,p,f)) (he:Fw K E ops.toList fn.ntmps p ts h=some (ts1,h1)) (hc:Z4 K ts1 f=some (.fn g first caps))
  (q:Goes K P fn.ntmps none b [] ts1 h1 fun x ds' ts2 h2=>toEnd x=true/\∃ h3,Jg ds' h2=some h3/\∃ h',Zg6 K P g (O1 [] first caps) h3 h'/\∃ vs,Jb K h' ts2 fn.results.toList=some vs/\R (Ue vs) h'):∃ v h',SpineR K P fn (.seq a b) ts h v h'/\R v h':=by
 obtain⟨x,ds',ts2,h2,c,hx,h3,ht,h',cl,vs,hv,r⟩:=q
 exact⟨_,h',.push hs S he hc c hx ht cl hv,r⟩
theorem Zg6.of {g:FuncId} {fg:Func} {body:Code} {args:List W} {h':H} (hf:K.funcs.get g=some fg) (hb:fg.body=some body) (hn:Nat.ble args.length fg.ntmps=true) (q:Goes K P fg.ntmps none body [] (Ug 0 args .nil) h fun x ds' ts3 h3=>ds'=[]/\h3=h'/\toEnd x=true/\∃ vs,Jb K h3 ts3 fg.results.toList=some vs):Zg6 K P g args h h':=by
 obtain⟨x,ds',ts3,h3,c,rfl,rfl,hx,vs,hv⟩:=q
 exact⟨fg,body,x,ts3,vs,hf,hb,hn,c,hx,hv⟩
end
noncomputable def Z2u:Option Out->Option (List (List C))
 | some (.val (.tup [.c s,.c (.int .i64 0)]) h)=>match s with
  | .snil=>some []
  | .slice n 0 len 1=>match h.get n with
   | some (.row 1 els false)=>bif Nat.ble 1 n&&Nat.blt n h.next&&Nat.ble 1 els.length&&Nat.beq els.length len&&els.all (fun l=>l.all C.flat) then some els else none
   | _=>none
  | _=>none
 | _=>none
theorem Zyr {o:Option Out} {els:List (List C)} (e:Z2u o=some els):∃ h s,o=some (.val (.tup [.c s,.c (.int .i64 0)]) h)/\((els=[]/\s=.snil)\/∃ n,1<=n/\n<h.next/\s=.slice n 0 els.length 1/\h.get n=some (.row 1 els false)/\els.all (fun l=>l.all C.flat)=true/\1<=els.length):=by
 unfold Z2u at e
 split at e
 ·rename_i s h
  split at e
  ·cases e; exact⟨h,.snil,rfl,.inl ⟨rfl,rfl⟩⟩
  ·rename_i n len
   split at e
   ·rename_i els' ho
    cases hb:(Nat.ble 1 n&&Nat.blt n h.next&&Nat.ble 1 els'.length&&Nat.beq els'.length len&&els'.all (fun l=>l.all C.flat)) with
    | false=>rw[hb] at e; cases e
    | true =>
     rw[hb] at e
     cases e
     simp only[aQ] at hb
     obtain⟨⟨⟨⟨b1,b2⟩,b3⟩,b4⟩,b5⟩:=hb
     obtain rfl:=bQ b4
     exact⟨h,_,rfl,.inr ⟨n,lQ b1,by simpa [Nat.blt_eq] using b2,rfl,ho,b5,lQ b3⟩⟩
   ·cases e
  ·cases e
 ·cases e
section
variable {K:Cfg} {P:Program} {Y:Kn} {f:FuncId} {args:List W}
theorem Zx.Z5n (F:Fits K P) (Hh:Hearts K P) (hY:Zch K P Y) {G:Nat} (hg:K.globs=Tree.set .nil G 0) {n:Nat} {els:List (List C)} (e:Z2u (evX K Y n (.call f args ⟨.nil,1⟩))=some els) (ha:args.all W.flat=true) (h:H) (hpos:0<h.next) :
  ∃ h' s,Zx K P f args h (.tup [.c s,.c (.int .i64 0)]) h'/\h.next<=h'.next/\(∀ m,m<h.next->h'.get m=h.get m)/\((els=[]/\s=.snil)\/∃ q,h.next<=q/\q<h'.next/\s=.slice q 0 els.length 1/\h'.get q=some (.row 1 els false)/\1<=els.length):=by
 obtain⟨h1,s,e1,hs⟩:=Zyr e
 have c0:Zx K P f args ⟨.nil,1⟩ (.tup [.c s,.c (.int .i64 0)]) h1:=(Mc F Hh hY n).call f args _ _ _ e1
 have none0:∀ n o,¬ (⟨.nil,1⟩:H).get n=some o:=fun n o hn=>by cases hn
 have L:Lies K (fun n=>if n<1 then n else h.next+(n - 1)) ⟨.nil,1⟩ h:=by
  refine⟨fun n hn=>if_neg (by have:1<=n:=hn; omega),fun n hn=>?_,fun n o ho=>(none0 n o ho).elim,fun n n' o o' ho=>(none0 n o ho).elim,fun g n hgn=>?_⟩
  ·show (if n<1 then n else _)<h.next
   have:n<1:=hn
   rw[if_pos this]
   omega
  ·rw[(Sj hg hgn).2]; rfl
 rcases hs with ⟨rfl,rfl⟩|⟨k,k1,k2,rfl,ho,hfl,el⟩
 ·have c1:=c0.frame L (h':=⟨h.m,h.next+(h1.next - 1)⟩) ⟨rfl,fun m o ho=>.inl ⟨ho,fun n o' ho'=>(none0 n o' ho').elim⟩⟩
  rw[Jr (fun a ha=>W.Jj ha _) ha] at c1
  exact⟨⟨h.m,h.next+(h1.next - 1)⟩,.snil,c1,Nat.le_add_right _ _,fun m _=>rfl,.inl ⟨rfl,rfl⟩⟩
 ·have fl:∀ σ:Nat->Nat,(O.row 1 els false).ren σ=.row 1 els false:=fun σ=>by
   show O.row 1 (els.map (List.map (C.ren σ))) false=_
   rw[Jr (fun l hl=>Jr (fun a ha=>C.Jj ha _) hl) hfl]
  have sk:(if k<1 then k else h.next+(k - 1))=h.next+(k - 1):=if_neg oM
  have c1:=c0.frame L (h':=(⟨h.m,h.next+(h1.next - 1)⟩:H).put (h.next+(k - 1)) (.row 1 els false)) ⟨rfl,fun m o ho'=>by
   rw[H.get_put] at ho'
   split at ho'
   ·rename_i hm
    cases ho'
    exact .inr ⟨k,_,ho,rfl,rfl,by show (if k<1 then k else h.next+(k - 1))=m; rw[sk,hm],(fl _).symm⟩
   ·exact .inl ⟨ho',fun n o' ho2=>(none0 n o' ho2).elim⟩⟩
  rw[Jr (fun a ha=>W.Jj ha _) ha] at c1
  refine⟨(⟨h.m,h.next+(h1.next - 1)⟩:H).put (h.next+(k - 1)) (.row 1 els false),.slice (h.next+(k - 1)) 0 els.length 1,?_,Nat.le_add_right h.next _,fun m hm=>by rw[Zc oM]; rfl,.inr ⟨h.next+(k - 1),Nat.le_add_right _ _,by rw[H.Zf]; show h.next+(k - 1)<h.next+(h1.next - 1); omega,rfl,Zz ..,el⟩⟩
  have ev:(V.tup [.c (.slice k 0 els.length 1),.c (.int .i64 0)]).ren (fun n=>if n<1 then n else h.next+(n - 1))=.tup [.c (.slice (h.next+(k - 1)) 0 els.length 1),.c (.int .i64 0)]:=by
   show V.tup [.c (.slice (if k<1 then k else h.next+(k - 1)) 0 els.length 1),.c (.int .i64 0)]=_
   rw[sk]
  rw[ev] at c1
  exact c1
end
open Go.RowKit
section
variable {K:Cfg} {P:Program} {f:FuncId} {args:List W} {h h':H}
theorem Zm0 {ρ:Ren} {W:World} (hr:Rep K ρ h W) (hd:Dom ρ h.next) (hro:∀ n o,h.get n=some o->o.ro=true) (c:Zx K P f args h (.w (.c (.bool true))) h') {vals:List Value} (ha:Yq (Jv ρ) args vals) :
  Calls P f vals.toArray W fun e W'=>e=.returned (.bool true)/\Below W.heap.size W W':=by
 have:=c.2 ρ W vals none 0 hr hd ha
 refine (callsIn_wide.1 (show CallsIn Fence.wide 0 P f vals.toArray W _ from this)).mono ?_
 rintro e W' ⟨ρ',val,rfl,aft,hv⟩
 have e:val=.bool true:=hv
 subst e
 refine⟨rfl,aft.fr.os,aft.fr.tape,aft.fr.output,aft.fr.size,fun k hk=>aft.fr.keep k hk ?_⟩
 rintro⟨m,o,l,ho,hr0,_⟩
 rw[hro m o ho] at hr0
 cases hr0
end
open Go.ChangeShapes Go.WideShapes
inductive Kt where
 | int (k:IntKind)
 | bool
 | str
def Kt.has:Kt->Value->Prop
 | .int k,v=>∃ n,v=.int k n/\(Lit.int k n).wf=true
 | .bool,v=>∃ b,v=.bool b
 | .str,v=>∃ s:ByteArray,v=.string s
section
variable {P:Program} {cs:List Value}
end
end Go.Ev
