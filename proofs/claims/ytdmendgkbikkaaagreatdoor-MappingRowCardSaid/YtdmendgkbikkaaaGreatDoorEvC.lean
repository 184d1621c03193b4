/- The evaluator, its soundness and the calculus on its level: several texts in one. -/
import Derived.Test.YtdmendgkbikkaaaGreatDoorEvB
import Derived.Below
import Derived.OpenShut
import Derived.MakeChecks
import Derived.ChangeArms
import Derived.FnData
import Derived.Attr
import Derived.WideShapes
set_option linter.unusedSimpArgs false
set_option linter.unusedVariables false
set_option linter.unusedSectionVars false
/- What the evaluator knows by heart: slices.Sorted(maps.Keys(m)) of a map whose keys are ints. -/
namespace Go.Ev
open Go.RowKit Go.Maps
section
variable {K:Cfg} {P:Program} {ρ:Ren} {h h':H} {w w':World}
theorem Rep.newAt (hr:Rep K ρ h w) (hn:ρ h.next=none) (o:O) (g room:Nat) (hg:w.heap.size≤g) (hk:∀ k,k<w.heap.size→w'.heap[k]? = w.heap[k]?) (hs:w.heap.size≤w'.heap.size)
  (hor:G6 (ρ.set h.next ⟨g,0,room⟩) w' o ⟨g,0,room⟩) (h1:w'.os=w.os) (h2:w'.tape=w.tape) (h3:w'.output=w.output) (hro:o.ro=false:=by rfl) :
  Aft K ρ h w (ρ.set h.next ⟨g,0,room⟩) (h.new o) w':=by
 have hle:Ren.le ρ (ρ.set h.next ⟨g,0,room⟩):=Ren.Sj hn _
 have hold:∀ m x,m≠h.next→(h.new o).get m=some x→∃ lm,ρ m=some lm∧G6 ρ w x lm:=fun m x hm hx=>by
  rw[H.Zd,if_neg hm] at hx
  exact hr.obj m x hx
 refine⟨hle,New.set _ _ _,⟨fun g n hg=>?_,fun m x hx=>?_,fun m m' x x' lm lm' hne hx hx' hlm hlm'=>?_⟩,⟨h1,h2,h3,hs,fun k hk' _=>hk k hk',fun k hm=>?_,fun m x hx hxr=>?_⟩,Nat.le_succ _⟩
 ·obtain⟨r,hr'⟩:=hr.glob g n hg
  exact⟨r,hle _ _ hr'⟩
 ·by_cases e:m=h.next
  ·subst e
   rw[H.Zd,if_pos rfl] at hx
   cases hx
   exact⟨_,Ren.Yu _ _ _,hor⟩
  ·obtain⟨lm,hlm,hrm⟩:=hold m x e hx
   exact⟨lm,hle _ _ hlm,(hrm.mono hle).congr (hk _ hrm.lt)⟩
 ·by_cases e:m=h.next
  ·subst e
   rw[Ren.Yu] at hlm
   cases hlm
   obtain⟨l2,hl2,hr2⟩:=hold m' x' (fun e=>hne e.symm) hx'
   rw[Ren.Eh _ _ (fun e=>hne e.symm),hl2] at hlm'
   cases hlm'
   have:=hr2.lt
   intro _
   simp only
   omega
  ·obtain⟨l1,hl1,hr1⟩:=hold m x e hx
   rw[Ren.Eh _ _ e,hl1] at hlm
   cases hlm
   by_cases e':m'=h.next
   ·subst e'
    rw[Ren.Yu] at hlm'
    cases hlm'
    have:=hr1.lt
    intro _
    simp only
    omega
   ·obtain⟨l2,hl2,hr2⟩:=hold m' x' e' hx'
    rw[Ren.Eh _ _ e',hl2] at hlm'
    cases hlm'
    rw[H.Zd,if_neg e] at hx
    rw[H.Zd,if_neg e'] at hx'
    exact hr.inj m m' x x' _ _ hne hx hx' hl1 hl2
 ·obtain⟨m,x,lm,hx,hxr,hlm,hkm⟩:=hm
  by_cases e:m=h.next
  ·subst e
   rw[Ren.Yu] at hlm
   cases hlm
   exact .inl (by simp only at hkm; omega)
  ·rw[H.Zd,if_neg e] at hx
   rw[Ren.Eh _ _ e] at hlm
   exact .inr ⟨m,x,lm,hx,hxr,hlm,hkm⟩
 ·rw[H.Zd] at hx
  split at hx
  ·cases hx
   rw[hro] at hxr
   cases hxr
  ·exact hx
theorem Rep.stay (hr:Rep K ρ h w) (hk:∀ k,k<w.heap.size→w'.heap[k]? = w.heap[k]?) (hs:w.heap.size≤w'.heap.size) (h1:w'.os=w.os) (h2:w'.tape=w.tape) (h3:w'.output=w.output):Aft K ρ h w ρ h w':=by
 refine⟨Ren.le.refl _,New.refl _ _ _,⟨hr.glob,fun m x hx=>?_,hr.inj⟩,⟨h1,h2,h3,hs,fun k hk' _=>hk k hk',fun k hm=>.inr hm,fun m x hx _=>hx⟩,Nat.le_refl _⟩
 obtain⟨lm,hlm,hrm⟩:=hr.obj m x hx
 exact⟨lm,hlm,hrm.congr (hk _ hrm.lt)⟩
theorem Zb0 (a:Int):∀ l:List Int,(Zai a l).Perm (a :: l)
 | []=>List.Perm.refl _
 | b :: l=>by
  unfold Zai
  split
  ·exact List.Perm.refl _
  ·exact ((Zb0 a l).cons b).trans (List.Perm.swap a b l)
theorem Zc1 (a:Int):∀ l:List Int,l.Pairwise (· ≤ ·)→(Zai a l).Pairwise (· ≤ ·)
 | [],_=>by simp [Zai]
 | b :: l,hl=>by
  unfold Zai
  have hb:=List.pairwise_cons.1 hl
  split
  ·rename_i hab
   refine List.pairwise_cons.2 ⟨fun x hx=>?_,hl⟩
   rcases List.mem_cons.1 hx with rfl|hx
   ·exact hab
   ·exact Int.le_trans hab (hb.1 x hx)
  ·rename_i hab
   refine List.pairwise_cons.2 ⟨fun x hx=>?_,Zc1 a l hb.2⟩
   rcases List.mem_cons.1 ((Zb0 a l).mem_iff.1 hx) with rfl|hx
   ·omega
   ·exact hb.1 x hx
def Vu (e:MapEntry):Int:=match e.key with
 | .int _ n=>n
 | _=>0
theorem Ns:∀ (es:List (W × W)) (l:List Int) (xs:List MapEntry),Br es=some l→Yj (Zdb ρ) es xs →
  l.Pairwise (· ≤ ·)∧l.Perm (xs.map Vu)∧∀ e∈xs,∃ a:Int,e.key=.int .i64 a∧Lh a=true
 | [],l,[],hl,_=>by
  cases hl
  exact⟨List.Pairwise.nil,List.Perm.refl _,fun e he=>by cases he⟩
 | [],_,_ :: _,_,h=>h.elim
 | _ :: _,_,[],_,h=>h.elim
 | (k,v) :: es,l,x :: xs,hl,hx=>by
  unfold Br at hl
  split at hl
  ·rename_i e
   cases e
  ·rename_i a v' es' e
   cases e
   cases hf:Lh a with
   | false=>rw[hf] at hl; cases hl
   | true =>
    rw[hf] at hl
    simp only[cond_true] at hl
    split at hl
    ·cases hl
    ·rename_i r hr
     cases hl
     obtain⟨p1,p2,p3⟩:=Ns es r xs hr hx.2
     have hk:x.key=.int .i64 a:=hx.1.1
     refine⟨Zc1 a r p1,?_,fun e he=>?_⟩
     ·refine (Zb0 a r).trans ?_
      rw[List.map_cons]
      have:Vu x=a:=by simp [Vu,hk]
      rw[this]
      exact p2.cons a
     ·rcases List.mem_cons.1 he with rfl|he
      ·exact⟨a,hk,hf⟩
      ·exact p3 e he
  ·cases hl
theorem insert_perm {H:Type} (x:Lit × DataW H):∀ l:List (Lit × DataW H),(DataW.insert x l).Perm (x :: l)
 | []=>List.Perm.refl _
 | y :: r=>by
  unfold DataW.insert
  split
  ·exact List.Perm.refl _
  ·exact ((insert_perm x r).cons y).trans (List.Perm.swap x y r)
theorem M6 {H:Type}:∀ l:List (Lit × DataW H),(l.foldr DataW.insert []).Perm l
 | []=>List.Perm.refl _
 | x :: l=>(insert_perm x _).trans ((M6 l).cons x)
theorem Zrf (P:Program) (k:TypeId) (hk:P.underlying k=some (.int .i64)) {b clock:Nat} {xs:Array MapEntry} (hb:w.heap[b]? = some (.map xs clock)) (hborn:Born xs.toList clock) (hn:xs.size≤1000000)
  (hkeys:∀ e∈xs.toList,∃ a:Int,e.key=.int .i64 a∧Lh a=true) :
  ∃ D:DataW Nat,w.ownsMap P k (fun _=>some (.nil,[])) b xs.size D∧Maps.size D=xs.size∧(Go.intKeys D).Perm (xs.toList.map Vu):=by
 have hrd:∀ e∈xs.toList,WideElems.rd P k (fun _=>some ((.nil,[]):DataW Nat × List MemPlace)) e=some (.int .i64 (Vu e),.nil):=by
  intro e he
  obtain⟨a,ha,hf⟩:=hkeys e he
  have hwf:(Lit.int .i64 a).wf=true:=by
   simp [Lh] at hf
   simp [Lit.wf,IntKind.min,IntKind.max,IntKind.signed,IntKind.bits]
   omega
  simp [WideElems.rd,ha,keyOf,hk,mapKey,hwf,Vu]
 have hrg:xs.toList.map (WideElems.rg P k (fun _=>some ((.nil,[]):DataW Nat × List MemPlace)))=xs.toList.map (fun e=>(Lit.int .i64 (Vu e),(.nil:DataW Nat))):=by
  apply List.map_congr_left
  intro e he
  simp [WideElems.rg,hrd e he]
 have hp:=M6 (xs.toList.map (fun e=>(Lit.int .i64 (Vu e),(.nil:DataW Nat))))
 have hml:xs.size≤maxLen:=Nat.le_trans hn (by decide)
 refine⟨_,⟨xs,clock,hb,⟨hml,⟨hborn.old,?_⟩,fun x hx=>⟨_,hrd x hx⟩⟩,Nat.le_refl _,rfl⟩,?_,?_⟩
 ·refine⟨List.pairwise_map.2 (hborn.up.imp fun h e=>?_),List.pairwise_map.2 (hborn.apart.imp_of_mem fun {x y} hx hy h e=>?_)⟩
  ·rw[e] at h
   exact Nat.lt_irrefl _ h
  ·obtain⟨p,hp,_⟩:=hkeys x hx
   exact h _ _ hp (e.symm.trans hp)
 ·rw[hrg,Maps.size_eq,hp.length_eq,List.length_map,Array.length_toList]
 ·rw[hrg]
  refine (hp.map _).trans ?_
  rw[List.map_map]
  exact List.Perm.refl _
structure SortC (P:Program) (f:FuncId):Prop where
 call:O6 P f
 lay:∃ r:Go.Shelf.Ren,Go.Proofs.SlLaysZI.n6 P r∧r.f 6=f∧Go.Proofs.AnyZI.SortsIn P r Fence.wide 3∧∀ args w,(callFunc (r.f 9) args).run P w=.ok (.enter (r.f 9) args) w
structure KeysC (P:Program) (g:FuncId):Prop where
 lay:∃ r:Go.Shelf.Ren,Go.Proofs.SlLaysZI.n10 P r∧r.f 10=g∧∀ args w,(callFunc g args).run P w=.ok (.enter g args) w
theorem Zce {f g:FuncId} (c:SortC P f) (eg:∀ args w,(callFunc g args).run P w=.ok (.enter g args) w) {lb:Array Value} {S:List Int→Prop} {N:Nat} (hN:N≤1000000) (hs:SeqGives Fence.wide 1 P g lb Go.encZ S N w) {r:Option Nat} {m:Nat} :
  CallsIn (Wd r) m P f #[.func (.func g) #[] lb] w fun e w'=>∃ (v:Value) (ss:List Int) (t:TypeId),e=.returned v∧S ss ∧
   w'.ownsRow w.heap.size t 1 v ss.length ((ss.mergeSort (fun x y=>decide (x≤y))).map Go.encZ)∧(v=.slice none 0 0 ↔ ss=[])∧Below w.heap.size w w':=by
 obtain⟨q,L,rfl,hsort,e9⟩:=c.lay
 have hml:N≤maxLen:=Nat.le_trans hN (by decide)
 refine Qd (callsIn_wide.1 ((Go.Proofs.AnyZI.sorted_in L Fence.wide 4 trivial trivial trivial trivial rfl (Nat.le_refl _) hsort e9 g lb trivial eg S N hml (by omega) w hs).mono ?_))
 rintro e w' ⟨v,ss,he,h1,h2,h3,h4⟩
 exact⟨v,ss,_,he,h1,h2,h3,h4⟩
theorem Z08 {l ss:List Int} (hl:l.Pairwise (· ≤ ·)) (hp:ss.Perm l):ss.mergeSort (fun x y=>decide (x≤y))=l:=by
 refine List.Perm.eq_of_pairwise (le:=(· ≤ ·)) (fun a b _ _ h1 h2=>Int.le_antisymm h1 h2) ?_ hl ((List.mergeSort_perm _ _).trans hp)
 exact (List.pairwise_mergeSort (le:=fun x y:Int=>decide (x≤y)) (fun a b c h1 h2=>by simp at *; omega) (fun a b=>by simp; omega) ss).imp (fun h=>by simpa using h)
theorem Zo5 {l ss:List Int} (hl:l.Pairwise (· ≤ ·)) (hp:ss.Perm l) (hne:l≠[]) (hr:Rep K ρ h w) (hd:Dom ρ h.next) {v:Value} {t:TypeId}
  (ho:w'.ownsRow w.heap.size t 1 v ss.length ((ss.mergeSort (fun x y=>decide (x≤y))).map Go.encZ)) (hb:Below w.heap.size w w') :
  Tt K ρ h w (.w (.c (.slice h.next 0 l.length 1))) (h.new (.row 1 (l.map fun i=>[.int .i64 i]) false)) (.returned v) w':=by
 rw[Z08 hl hp] at ho
 have hlen:=hp.length_eq
 rcases ho.2 with ⟨_,h0⟩|⟨g,cap,cur,rfl,hg,hh,h1,h2,h3,h4⟩
 ·exact absurd (List.eq_nil_of_length_eq_zero (hlen ▸ h0)) hne
 ·rw[hlen] at h1 h4 ⊢
  refine⟨_,_,rfl,hr.newAt (hd _ (Nat.le_refl _)) _ g cap hg hb.block hb.size ?_ hb.os hb.tape hb.output,?_⟩
  ·refine⟨cur,t,(0,0),hh,by simpa using h3,fun _=>.inl rfl,fun x hx=>?_,fun k c hc=>?_⟩
   ·obtain⟨i,_,rfl⟩:=List.mem_map.1 hx
    rfl
   ·unfold read1 at hc
    simp only[Nat.div_one,Nat.mod_one] at hc
    split at hc
    ·cases hc
    ·rename_i e he
     rw[List.getElem?_map] at he
     cases hi:l[k]? with
     | none=>rw[hi] at he; cases he
     | some i =>
      rw[hi] at he
      cases he
      cases hc
      refine⟨.int .i64 i,?_,rfl⟩
      have hk:k<l.length:=(List.getElem?_eq_some_iff.1 hi).1
      have:(cur.toList.take (l.length * 1))[k]? = some (Go.encZ i):=by rw[h4,List.getElem?_map,hi]; rfl
      rw[List.getElem?_take_of_lt (by omega),Array.getElem?_toList] at this
      simpa using this
  ·exact⟨_,_,cap,Ren.Yu _ _ _,rfl,.inr ⟨rfl,h1,by simp⟩⟩
theorem Ztn {f:FuncId} (c:SortC P f) (kc:∀ g,K.keys.contains g=true→KeysC P g) {args:List W} {v:V} (hv:Fv K h args=some (.val v h')) {vals:List Value} {r:Option Nat} {m:Nat} (hr:Rep K ρ h w) (hd:Dom ρ h.next) (ha:Yj (Jn ρ) args vals):CallsIn (Wd r) m P f vals.toArray w (Tt K ρ h w v h'):=by
 unfold Fv at hv
 split at hv
 ·rename_i g a off
  cases hb:K.keys.contains g with
  | false=>rw[hb] at hv; cases hv
  | true =>
   rw[hb] at hv
   simp only[cond_true] at hv
   split at hv
   ·rename_i sz els ro ho
    obtain⟨u,rfl,hu⟩:=Ff ha
    obtain⟨fa,ca,rfl,q1,q2⟩:=hu
    have hfa:fa = #[]:=by
     cases hfl:fa.toList with
     | nil=>exact Array.toList_eq_nil_iff.1 hfl
     | cons x y=>rw[hfl] at q1; exact q1.elim
    subst hfa
    obtain⟨cv,hcv,hcp⟩:=Ff q2
    obtain⟨la,hla,rfl⟩:=hcp
    have hca:ca = #[.pointer (some (la.at off))]:=by
     apply Array.toList_inj.1
     rw[hcv]
    subst hca
    obtain⟨la',hla',cs,t,fr,hcell,hsz,hfr,hw,hrd⟩:=hr.obj a _ ho
    rw[hla] at hla'
    cases hla'
    obtain⟨rk,LK,rfl,eg⟩:=(kc g hb).lay
    have hBm:la.blk<w.heap.size:=(Array.getElem?_eq_some_iff.1 hcell).1
    unfold Za6 at hv
    split at hv
    ·
     rename_i hc1
     cases hv
     obtain⟨cv,hcv1,hcv2⟩:=hrd off _ hc1
     have e:cv=.map none:=hcv2
     subst e
     have hm:w.cell? (la.at off)=some (.map none):=by simp [World.cell?,Loc.at,hcell,hcv1]
     refine (Zce c eg (N:=0) (by omega) (Go.Proofs.EvKeys.Zss LK Fence.wide 1 trivial rfl la.blk (la.base+off) w hBm hm)).mono ?_
     rintro e w' ⟨v,ss,t,rfl,rfl,h2,h3,h4⟩
     refine⟨ρ,v,rfl,hr.stay h4.block h4.size h4.os h4.tape h4.output,?_⟩
     rw[h3.2 rfl]
     rfl
    ·rename_i n hc1
     split at hv
     ·rename_i es hes
      obtain⟨cv,hcv1,lm,hlm,rfl⟩:=hrd off _ hc1
      have hm:w.cell? (la.at off)=some (.map (some lm.blk)):=by simp [World.cell?,Loc.at,hcell,hcv1]
      obtain⟨lm',hlm',xs,clock,hxb,hxs,hborn⟩:=hr.obj n _ hes
      rw[hlm] at hlm'
      cases hlm'
      unfold Zcd at hv
      split at hv
      ·rename_i hsk
       cases hv
       obtain⟨p1,p2,p3⟩:=Ns es [] xs.toList hsk hxs
       have hx0:xs.toList=[]:=by
        have:=p2.length_eq
        simp at this
        simpa using this.symm
       have hsz0:xs.size=0:=by rw[←Array.length_toList,hx0]; rfl
       obtain⟨D,d1,d2,d3⟩:=Zrf P (rk.t 26) LK.t26 hxb hborn (by omega) p3
       refine (Zce c eg (N:=Maps.size D) (by omega) (Go.Proofs.EvKeys.gives LK Fence.wide 1 trivial rfl (Nat.le_refl _) la.blk (la.base+off) lm.blk _ D w hBm hm d1)).mono ?_
       rintro e w' ⟨v,ss,t,rfl,hss,h2,h3,h4⟩
       refine⟨ρ,v,rfl,hr.stay h4.block h4.size h4.os h4.tape h4.output,?_⟩
       have hs0:ss=[]:=by
        have:=(hss.trans d3).length_eq
        rw[hx0] at this
        exact List.eq_nil_of_length_eq_zero this
       rw[h3.2 hs0]
       rfl
      ·rename_i l hne hsk
       cases hb2:Nat.ble l.length 1000000 with
       | false=>rw[hb2] at hv; cases hv
       | true =>
        rw[hb2] at hv
        cases hv
        have hle:=Us hb2
        obtain⟨p1,p2,p3⟩:=Ns es l xs.toList hsk hxs
        have hll:=p2.length_eq
        rw[List.length_map] at hll; have hxl:xs.toList.length=xs.size:=Array.length_toList
        obtain⟨D,d1,d2,d3⟩:=Zrf P (rk.t 26) LK.t26 hxb hborn (by omega) p3
        refine (Zce c eg (N:=Maps.size D) (by omega) (Go.Proofs.EvKeys.gives LK Fence.wide 1 trivial rfl (Nat.le_refl _) la.blk (la.base+off) lm.blk _ D w hBm hm d1)).mono ?_
        rintro e w' ⟨v,ss,t,rfl,hss,h2,h3,h4⟩
        exact Zo5 p1 ((hss.trans d3).trans p2.symm) (fun e=>hne e) hr hd h2 h4
      ·cases hv
     ·cases hv
    ·cases hv
   ·cases hv
 ·cases hv
end
end Go.Ev
/- A program's tables, checked. -/
namespace Go.Ev
open Go.RowKit
def atO {α:Type} (p:Nat→α→Prop) (o:Nat):Option α→Prop
 | some x=>p o x
 | none=>True
def Tree.Zir {α:Type} (p:Nat→α→Prop):Tree α→Nat→Nat→Prop
 | .nil,_,_=>True
 | .node v l r,m,o=>atO p o v∧l.Zir p (2 * m) (o+m)∧r.Zir p (2 * m) (o+2 * m)
theorem Tree.Zir.get {α:Type} {p:Nat→α→Prop}:∀ {t:Tree α} {m o:Nat},t.Zir p m o→∀ k x,t.get k=some x→p (o+m * k) x
 | .nil,_,_,_,k,x,h=>by rw[Tree.Bt] at h; cases h
 | .node v l r,m,o,⟨h1,h2,h3⟩,k,x,h=>by
  rw[Tree.O8] at h
  split at h
  ·rename_i e
   subst e
   rw[h] at h1
   have h2:p o x:=h1
   simpa using h2
  ·rename_i e
   split at h
   ·rename_i e2
    have:=h2.get _ _ h
    have e3:o+m+2 * m * (k / 2)=o+m * k:=by
     have:k=2 * (k / 2)+1:=by omega
     conv=>rhs; rw[this]
     rw[Nat.mul_add,←Nat.mul_assoc,Nat.mul_comm m 2]
     omega
    rwa [e3] at this
   ·rename_i e2
    have:=h3.get _ _ h
    have e3:o+2 * m+2 * m * (k / 2 - 1)=o+m * k:=by
     obtain⟨q,hq⟩:∃ q,k=2 * q+2:=⟨k / 2 - 1,by omega⟩
     have hq2:k / 2 - 1=q:=by omega
     rw[hq2,hq,Nat.mul_add,←Nat.mul_assoc,Nat.mul_comm m 2]
     omega
    rwa [e3] at this
def Tree.Zk2 {α:Type} (p:Nat→α→Bool) (t:Tree α):Nat→Nat→Bool:=match t with
 | .nil=>fun _ _=>true
 | .node v l r=>fun m o=>(match v with|some x=>p o x|none=>true)&&l.Zk2 p (2 * m) (o+m)&&r.Zk2 p (2 * m) (o+2 * m)
theorem Tree.Qt {α:Type} {p:Nat→α→Bool}:∀ {t:Tree α} {m o:Nat},t.Zk2 p m o=true→t.Zir (fun i x=>p i x=true) m o
 | .nil,_,_,_=>trivial
 | .node v l r,m,o,h=>by
  unfold Tree.Zk2 at h
  rw[Bool.and_eq_true,Bool.and_eq_true] at h
  refine⟨?_,Tree.Qt h.1.2,Tree.Qt h.2⟩
  cases v with
  | none=>trivial
  | some x=>exact h.1.1
def Zof (ti:TI):Option TypeInfo→Bool
 | some i=>Nat.beq i.size ti.size&&Nat.beq i.bytes ti.bytes&&(match i.zero with
  | some z=>(match Qs z with
   | some u=>eqV u (.w ti.zero)
   | none=>false)
  | none=>false)
 | none=>false
def Q8 (P:Program):List Field→Bool
 | []=>true
 | f :: l=>(P.info? f.type).isSome&&Q8 P l
def Zdu (P:Program):TypeDesc→Bool
 | .slice e=>(P.info? e).isSome
 | .struct fs=>Q8 P fs.toList
 | _=>true
def Z1c (P:Program) (t:Nat) (ti:TI):Bool :=
 Zof ti (P.info? t)&&(ti.agg == ti.desc.isRow)&&Nat.beq ti.zero.cells.length ti.size&&Zdu P ti.desc&&(!ti.plain || (!P.stoodInHeld t&&!P.eqGuardType P.depth t))
def Zok (_:Nat) (fn:Func):Bool:=!(fn.name == "runtime.NumGoroutine")
theorem Q9 {P:Program}:∀ {l:List Field},Q8 P l=true→∀ f∈l,∃ i,P.info? f.type=some i
 | [],_,f,hf=>by cases hf
 | g :: l,h,f,hf=>by
  unfold Q8 at h
  rw[Bool.and_eq_true] at h
  rcases List.mem_cons.1 hf with rfl|hf
  ·exact Option.isSome_iff_exists.1 h.1
  ·exact Q9 h.2 f hf
theorem Zz0 {K:Cfg} {P:Program} (hm:P.follows .mixedOrders=true) (hf:K.funcs.Zir (fun i fn=>P.funcs[i]? = some fn) 1 0) (hn:K.funcs.Zk2 Zok 1 0=true)
  (hu:K.types.Zir (fun i ti=>P.underlying i=some ti.desc) 1 0) (ht:K.types.Zk2 (Z1c P) 1 0=true):Fits K P:=by
 have ht':∀ t ti,K.types.get t=some ti→Z1c P t ti=true:=fun t ti h=>by
  have:=(Tree.Qt ht).get t ti h
  simpa using this
 have ht2:∀ t ti,K.types.get t=some ti→Zof ti (P.info? t)=true∧ti.agg=ti.desc.isRow∧ti.zero.cells.length=ti.size∧Zdu P ti.desc=true∧(ti.plain=true→P.stoodInHeld t=false∧P.eqGuardType P.depth t=false):=fun t ti h=>by
  have:=ht' t ti h
  unfold Z1c at this
  simp only[Bool.and_eq_true,Bool.or_eq_true,beq_iff_eq,Bool.not_eq_true'] at this
  obtain⟨⟨⟨⟨h1,h2⟩,h3⟩,h4⟩,h5⟩:=this
  refine⟨h1,h2,Nat.eq_of_beq_eq_true h3,h4,fun hp=>?_⟩
  rcases h5 with h5|h5
  ·rw[hp] at h5; cases h5
  ·exact h5
 refine⟨fun f fn h=>?_,fun f fn h e=>?_,hm,fun t ti h=>?_,fun t ti h=>?_,fun t ti h=>(ht2 t ti h).2.1,fun t ti h=>(ht2 t ti h).2.2.1,fun t ti el h e=>?_,fun t ti fs h e=>?_,fun t ti h=>(ht2 t ti h).2.2.2.2⟩
 ·have:=hf.get f fn h
  simpa using this
 ·have:=(Tree.Qt hn).get f fn h
  unfold Zok at this
  rw[e] at this
  simp at this
 ·have:=hu.get t ti h
  simpa using this
 ·have h1:=(ht2 t ti h).1
  unfold Zof at h1
  split at h1
  ·rename_i i hi
   simp only[Bool.and_eq_true] at h1
   obtain⟨⟨a,b⟩,c⟩:=h1
   split at c
   ·rename_i z hz
    split at c
    ·rename_i u hu
     have e:=Zvn c
     subst e
     exact⟨i,hi,Nat.eq_of_beq_eq_true a,Nat.eq_of_beq_eq_true b,z,hz,fun ρ=>Zk1 ρ hu⟩
    ·cases c
   ·cases c
  ·cases h1
 ·have h4:=(ht2 t ti h).2.2.2.1
  rw[e] at h4
  exact Option.isSome_iff_exists.1 h4
 ·have h4:=(ht2 t ti h).2.2.2.1
  rw[e] at h4
  exact Q9 h4
end Go.Ev
/- From the evaluator's word to a call: where crc's table is the one package-level variable. -/
namespace Go.Ev
open Go.RowKit
def isTrue:Option Out→Bool
 | some (.val (.w (.c (.bool true))) _)=>true
 | _=>false
theorem Zl6 {o:Option Out} (h:isTrue o=true):∃ h',o=some (.val (.w (.c (.bool true))) h'):=by
 unfold isTrue at h
 split at h
 ·exact⟨_,rfl⟩
 ·cases h
def steps16:List Int:=[0,498536548,997073096,651767980,1994146192,1802195444,1303535960,1342533948,3988292384,4027552580,3604390888,3412177804,2607071920,2262029012,2685067896,3183342108]
def Sg:H:=⟨Tree.node (some (.row 16 [[.int .u32 0,.int .u32 498536548,.int .u32 997073096,.int .u32 651767980,.int .u32 1994146192,.int .u32 1802195444,.int .u32 1303535960,.int .u32 1342533948,.int .u32 3988292384,.int .u32 4027552580,.int .u32 3604390888,.int .u32 3412177804,.int .u32 2607071920,.int .u32 2262029012,.int .u32 2685067896,.int .u32 3183342108]] true)) .nil .nil,1⟩
def Nq (G:Nat):Ren:=fun n=>if n=0 then some ⟨G,0,16⟩ else none
theorem Vp {K:Cfg} {G:Nat} (hg:K.globs=Tree.set .nil G 0) {g n:Nat} (h:K.globs.get g=some n):g=G∧n=0:=by
 rw[hg,Tree.Sa] at h
 split at h
 ·rename_i e
  cases h
  exact⟨e,rfl⟩
 ·rw[Tree.Bt] at h; cases h
theorem Zlx {K:Cfg} {G:Nat} (hg:K.globs=Tree.set .nil G 0):K.globs.get G=some 0:=by rw[hg,Tree.Sa,if_pos rfl]
theorem Dh {n:Nat} {o:O} (h:Sg.get n=some o):n=0∧o=.row 16 [steps16.map (.int .u32)] true:=by
 have h':(Tree.node (some (O.row 16 [steps16.map (.int .u32)] true)) .nil .nil).get n=some o:=h
 rw[Tree.O8] at h'
 split at h'
 ·rename_i e
  cases h'
  exact⟨e,rfl⟩
 ·split at h'<;>(rw[Tree.Bt] at h'; cases h')
section
variable {K:Cfg} {P:Program} {W:World} {G:Nat}
theorem Zcc (hg:K.globs=Tree.set .nil G 0) {cs:Array Value} {t:TypeId} {fr:Nat × Nat} (hb:W.heap[G]? = some (.cells cs t fr)) (hcs:cs.toList=steps16.map (Value.int .u32)):Rep K (Nq G) Sg W:=by
 refine⟨fun g n h=>?_,fun n o h=>?_,fun n n' o o' l l' hne h h' _ _=>?_⟩
 ·obtain⟨rfl,rfl⟩:=Vp hg h
  exact⟨16,rfl⟩
 ·obtain⟨rfl,rfl⟩:=Dh h
  refine⟨⟨G,0,16⟩,rfl,cs,t,fr,hb,?_,fun h=>(by cases h),fun x hx=>?_,fun k c hc=>?_⟩
  ·rw[←Array.length_toList,hcs]
   rfl
  ·simp only[List.mem_singleton] at hx
   subst hx
   rfl
  ·unfold read1 at hc
   have hk:k / 16=0:=by
    rcases Nat.eq_zero_or_pos (k / 16) with e|e
    ·exact e
    ·obtain⟨q,hq⟩:∃ q,k / 16=q+1:=⟨k / 16 - 1,by omega⟩
     rw[hq] at hc
     simp at hc
   have hk2:k % 16=k:=by omega
   rw[hk,hk2] at hc
   simp only[List.getElem?_cons_zero,List.getElem?_map] at hc
   cases he:steps16[k]? with
   | none=>rw[he] at hc; cases hc
   | some z =>
    rw[he] at hc
    cases hc
    refine⟨.int .u32 z,?_,rfl⟩
    simp only[Nat.zero_add]
    rw[←Array.getElem?_toList,hcs,List.getElem?_map,he]
    rfl
 ·obtain⟨rfl,_⟩:=Dh h
  obtain⟨rfl,_⟩:=Dh h'
  exact absurd rfl hne
theorem Z0c {H:Type} {enc:TypeId × Value→H} {base:Nat} {spare:Nat→Bool} {held:Bool} {fuel:Nat} {t e:TypeId} {n:Nat} {k:IntKind} {cs:List Value} {zs:List Int} {p:List MemPlace} (ht:P.underlying t=some (.array n e)) (he:P.underlying e=some (.int k)) (hc:P.cellsOf e=1) (hct:P.cellsOf t=n)
  (h:DataW.trod enc P W base spare held fuel t cs=some (.agg (zs.map fun z=>.lit (.int k z)),p)):cs=zs.map (Value.int k):=by
 obtain⟨xs,m,rfl,hx,hlen,hn,hel⟩:=DataW.trod_array ht h
 simp only[Prod.mk.injEq,DataW.agg.injEq] at hx
 have hzl:zs.length=n:=by
  have:=congrArg List.length hx.1
  simp at this
  omega
 apply List.ext_getElem?
 intro i
 rw[List.getElem?_map]
 by_cases hi:i<n
 ·have h1:=hel i hi
  rw[hc,Nat.mul_one] at h1
  have hix:i<xs.length:=by omega
  rw[List.getElem?_eq_getElem hix] at h1
  obtain⟨z,e1,e2,_⟩:=DataW.trod_int he h1
  have hcs:cs[i]? = some (.int k z):=by
   have:=congrArg (fun l:List Value=>l[0]?) e1
   simpa [List.getElem?_take,List.getElem?_drop] using this
  have hz:zs[i]? = some z:=by
   have:=congrArg (fun l:List (DataW H)=>l[i]?) hx.1
   simp only[List.getElem?_map,List.getElem?_eq_getElem hix,Option.map_some,e2] at this
   cases hz:zs[i]? with
   | none=>rw[hz] at this; cases this
   | some y =>
    rw[hz] at this
    simp at this
    rw[this]
  rw[hcs,hz]
  rfl
 ·rw[List.getElem?_eq_none (by omega),List.getElem?_eq_none (by omega)]
  rfl
theorem Zrb {nm:String} {t e:TypeId} (hg:P.globalNamed nm=some G) (hgt:(P.globals[G]?).map (·.type)=some t) (ht:P.underlying t=some (.array 16 e)) (he:P.underlying e=some (.int .u32)) (hc:P.cellsOf e=1) (hct:P.cellsOf t=16)
  (h:laidMetH P [(nm,.agg (steps16.map fun z=>.lit (.int .u32 z)))] W):∃ cs t fr,W.heap[G]? = some (.cells cs t fr)∧cs.toList=steps16.map (Value.int .u32):=by
 rw[MakeChecks.laidMetH_plain _ _ _ rfl] at h
 obtain⟨ps,⟨g0,t0,cs0,f0,p0,q0,hg0,ht0,hv0,hd0,_,_⟩,_,_⟩:=h
 obtain rfl:=Option.some.inj (hg.symm.trans hg0)
 obtain rfl:=Option.some.inj (hgt.symm.trans ht0)
 have e1:=Z0c ht he hc hct hd0
 simp only[World.var?,hg,Option.bind_some] at hv0
 split at hv0
 ·rename_i cs t' fr hb
  cases hv0
  exact⟨_,_,_,hb,e1⟩
 ·cases hv0
end
end Go.Ev
/- The evaluator with functions that are known by contract. -/
namespace Go.Ev
open Go.RowKit
abbrev Kn:=FuncId→List W→H→Option (V × H)
noncomputable section
def Z16 (K:Cfg) (X:Kn) (ev:Task→Option Out) (t:Task):Option Out :=
 Task.rec (motive:=fun _=>Option Out)
  (fun f args h=>Option.rec (Bz K ev f args h) (fun p=>Prod.rec (fun v h'=>some (.val v h')) p) (X f args h))
  (fun c n rd ds ts h=>Zem K ev c n rd ds ts h) t
def evX (K:Cfg) (X:Kn) (f:Nat):Task→Option Out :=
 Nat.rec (motive:=fun _=>Task→Option Out) (fun _=>none) (fun _ ih=>Z16 K X ih) f
end
def Zv (K:Cfg) (P:Program) (f:FuncId) (args:List W) (h:H) (v:V) (h':H):Prop :=
 O6 P f∧∀ ρ w vals r m,Rep K ρ h w→Dom ρ h.next→Yj (Jn ρ) args vals→CallsIn (Wd r) m P f vals.toArray w (Tt K ρ h w v h')
def Zdz (K:Cfg) (P:Program) (X:Kn):Prop:=∀ f args h v h',X f args h=some (v,h')→Zv K P f args h v h'
section
variable {K:Cfg} {P:Program} {E:Task→Option Out} {X:Kn}
theorem Zmy (F:Fits K P) (Hh:Hearts K P) (hX:Zdz K P X) (S:Sound K P E):Sound K P (Z16 K X E):=by
 have T:=Ex F Hh S (Xm F S)
 refine⟨fun f args h v h' hv=>?_,fun c n rd ds ts h x ds' ts' h' hv=>T.code c n rd ds ts h x ds' ts' h' hv,fun t o hv=>?_⟩
 ·cases hx:X f args h with
  | none =>
   have hv':(Option.rec (Bz K E f args h) (fun p=>Prod.rec (fun v h'=>some (.val v h')) p) (X f args h):Option Out)=some (.val v h'):=hv
   rw[hx] at hv'
   exact T.call f args h v h' hv'
  | some p =>
   obtain⟨v1,h1⟩:=p
   have hv':(Option.rec (Bz K E f args h) (fun p=>Prod.rec (fun v h'=>some (.val v h')) p) (X f args h):Option Out)=some (.val v h'):=hv
   rw[hx] at hv'
   cases hv'
   exact hX f args h v h' hx
 ·cases t with
  | call f args h =>
   cases hx:X f args h with
   | none =>
    have hv':(Option.rec (Bz K E f args h) (fun p=>Prod.rec (fun v h'=>some (.val v h')) p) (X f args h):Option Out)=some o:=hv
    rw[hx] at hv'
    exact T.shape (.call f args h) o hv'
   | some p =>
    obtain⟨v1,h1⟩:=p
    have hv':(Option.rec (Bz K E f args h) (fun p=>Prod.rec (fun v h'=>some (.val v h')) p) (X f args h):Option Out)=some o:=hv
    rw[hx] at hv'
    cases hv'
    exact .inl ⟨_,_,_,_,_,rfl,rfl⟩
  | code c n rd ds ts h=>exact T.shape (.code c n rd ds ts h) o hv
theorem Lj (F:Fits K P) (Hh:Hearts K P) (hX:Zdz K P X) (n:Nat):Sound K P (evX K X n):=by
 induction n with
 | zero=>exact⟨fun _ _ _ _ _ h=>(by cases h),fun _ _ _ _ _ _ _ _ _ _ h=>(by cases h),fun _ _ h=>(by cases h)⟩
 | succ n ih=>exact Zmy F Hh hX ih
theorem Zle (F:Fits K P) (Hh:Hearts K P) (hX:Zdz K P X) {G:Nat} (hg:K.globs=Tree.set .nil G 0) {W:World} {cs:Array Value} {t:TypeId} {fr:Nat × Nat} (hb:W.heap[G]? = some (.cells cs t fr)) (hcs:cs.toList=steps16.map (Value.int .u32))
  {f:FuncId} {args:List Ev.W} {n:Nat} (ht:isTrue (evX K X n (.call f args Sg))=true) {vals:List Value} (ha:Yj (Jn (Nq G)) args vals) :
  Calls P f vals.toArray W fun e W'=>e=.returned (.bool true)∧Below W.heap.size W W':=by
 obtain⟨h',he⟩:=Zl6 ht
 have hd:Dom (Nq G) Sg.next:=fun n hn=>by
  have:n≠0:=by have:1≤n:=hn; omega
  simp [Nq,this]
 have:=((Lj F Hh hX n).call f args Sg _ h' he).2 (Nq G) W vals none 0 (Zcc hg hb hcs) hd ha
 refine (callsIn_wide.1 (show CallsIn Fence.wide 0 P f vals.toArray W _ from this)).mono ?_
 rintro e W' ⟨ρ',val,rfl,aft,hv⟩
 have e:val=.bool true:=hv
 subst e
 refine⟨rfl,aft.fr.os,aft.fr.tape,aft.fr.output,aft.fr.size,fun k hk=>aft.fr.keep k hk ?_⟩
 rintro⟨m,o,l,ho,hro,_⟩
 obtain⟨rfl,rfl⟩:=Dh ho
 cases hro
end
end Go.Ev
/- One task at a time: what code comes to, piece by piece. -/
namespace Go.Ev
open Go.RowKit
def Yf (K:Cfg) (P:Program) (n:Nat) (rd:Option Nat) (c:Code) (ds:List Nat) (ts:Zw) (h:H) (x:X) (ds':List Nat) (ts':Zw) (h':H):Prop :=
 ∀ D ρ w a r m,Rep K ρ h w→Dom ρ h.next→Gc ρ n ts a.tmps→Marks ρ D ds a.defers→RdR ρ rd r→c.wpIn (Wd r) m P (Wm K D ρ h w n x ds' ts' h') a w
section
variable {K:Cfg} {P:Program} {E:Task→Option Out} {X:Kn} {n:Nat} {rd:Option Nat} {ds ds1 ds2:List Nat} {ts ts1 ts2:Zw} {h h1 h2:H} {x:Ev.X} {b c:Code}
theorem Yf.ev (F:Fits K P) (Hh:Hearts K P) (hX:Zdz K P X) {k:Nat} (e:evX K X k (.code c n rd ds ts h)=some (.at x ds1 ts1 h1)):Yf K P n rd c ds ts h x ds1 ts1 h1 :=
 (Lj F Hh hX k).code c n rd ds ts h x ds1 ts1 h1 e
theorem Yf.seq (a1:Yf K P n rd b ds ts h .normal ds1 ts1 h1) (a2:Yf K P n rd c ds1 ts1 h1 x ds2 ts2 h2):Yf K P n rd (.seq b c) ds ts h x ds2 ts2 h2:=by
 intro D ρ w a r m hr hd ht hm hrd
 refine wpIn_seq (wpIn_mono (a1 D ρ w a r m hr hd ht hm hrd) ?_)
 rintro e a1 w1 ⟨rfl,ρ1,aft1,tr1,mk1⟩
 show c.wpIn (Wd r) m P _ a1 w1
 refine wpIn_mono (a2 D ρ1 w1 a1 r m aft1.rep (aft1.dom hd) tr1 mk1 (hrd.mono aft1.le)) ?_
 rintro e a2 w2 ⟨rfl,ρ2,aft2,tr2,mk2⟩
 exact⟨rfl,ρ2,aft1.trans aft2,tr2,mk2⟩
theorem Yf.Zrm (hx:x≠.normal) (a1:Yf K P n rd b ds ts h x ds1 ts1 h1):Yf K P n rd (.seq b c) ds ts h x ds1 ts1 h1:=by
 intro D ρ w a r m hr hd ht hm hrd
 refine wpIn_seq (wpIn_mono (a1 D ρ w a r m hr hd ht hm hrd) ?_)
 rintro e a1 w1 ⟨rfl,rest⟩
 cases x with
 | normal=>exact absurd rfl hx
 | exit id=>exact⟨rfl,rest⟩
 | ret=>exact⟨rfl,rest⟩
theorem Yf.cond_true {o:Operand} (hc:Zx K ts o=some (.bool true)) (a1:Yf K P n rd b ds ts h x ds1 ts1 h1):Yf K P n rd (.cond o b c) ds ts h x ds1 ts1 h1 :=
 fun D ρ w a r m hr hd ht hm hrd=>wpIn_cond_true ((L9 hr ht).c hc) (a1 D ρ w a r m hr hd ht hm hrd)
theorem Yf.cond_false {o:Operand} (hc:Zx K ts o=some (.bool false)) (a1:Yf K P n rd c ds ts h x ds1 ts1 h1):Yf K P n rd (.cond o b c) ds ts h x ds1 ts1 h1 :=
 fun D ρ w a r m hr hd ht hm hrd=>wpIn_cond_false ((L9 hr ht).c hc) (a1 D ρ w a r m hr hd ht hm hrd)
theorem Yf.scope (a1:Yf K P n rd b ds ts h x ds1 ts1 h1):Yf K P n rd (.scope b) ds ts h x ds1 ts1 h1:=by
 intro D ρ w a r m hr hd ht hm hrd
 refine Zf0 (fun l a w=>?_) (a1 D ρ w a r m hr hd ht hm hrd)
 rintro⟨e,_⟩
 cases x<;>cases e
theorem Yf.label {l:Nat}:Yf K P n rd (.label l) ds ts h .normal ds ts h :=
 fun D ρ w a r m hr hd ht hm hrd=>wpIn_label ⟨rfl,ρ,Aft.refl hr,ht,hm⟩
theorem Yf.skip:Yf K P n rd .skip ds ts h .normal ds ts h :=
 fun D ρ w a r m hr hd ht hm hrd=>wpIn_skip ⟨rfl,ρ,Aft.refl hr,ht,hm⟩
theorem Yf.exit {id:Nat}:Yf K P n rd (.exit id) ds ts h (.exit id) ds ts h :=
 fun D ρ w a r m hr hd ht hm hrd=>wpIn_exit ⟨rfl,ρ,Aft.refl hr,ht,hm⟩
theorem Yf.ret:Yf K P n rd .ret ds ts h .ret ds ts h :=
 fun D ρ w a r m hr hd ht hm hrd=>wpIn_ret ⟨rfl,ρ,Aft.refl hr,ht,hm⟩
theorem Yf.block {id:Nat} (a1:Yf K P n rd b ds ts h .normal ds1 ts1 h1):Yf K P n rd (.block id b) ds ts h .normal ds1 ts1 h1:=by
 intro D ρ w a r m hr hd ht hm hrd
 refine wpIn_block (wpIn_mono (a1 D ρ w a r m hr hd ht hm hrd) ?_)
 rintro e a1 w1 ⟨rfl,rest⟩
 exact⟨rfl,rest⟩
theorem Yf.Zg9 {id:Nat} (a1:Yf K P n rd b ds ts h .ret ds1 ts1 h1):Yf K P n rd (.block id b) ds ts h .ret ds1 ts1 h1:=by
 intro D ρ w a r m hr hd ht hm hrd
 refine wpIn_block (wpIn_mono (a1 D ρ w a r m hr hd ht hm hrd) ?_)
 rintro e a1 w1 ⟨rfl,rest⟩
 exact⟨rfl,rest⟩
theorem Yf.Zd7 {id:Nat} (a1:Yf K P n rd b ds ts h (.exit id) ds1 ts1 h1):Yf K P n rd (.block id b) ds ts h .normal ds1 ts1 h1:=by
 intro D ρ w a r m hr hd ht hm hrd
 refine wpIn_block (wpIn_mono (a1 D ρ w a r m hr hd ht hm hrd) ?_)
 rintro e a1 w1 ⟨rfl,rest⟩
 show Exit.inBlock id _ (.exit id) a1 w1
 simp only[Exit.inBlock,if_true]
 exact⟨rfl,rest⟩
theorem Wm.ends {D:List Deferred} {ρ:Ren} {w:World} {e:Exit} {a:Act} {w':World} (hp:Wm K D ρ h w n x ds1 ts1 h1 e a w'):e=.normal∨(∃ id,e=.exit id)∨e=.ret:=by
 obtain⟨rfl,_⟩:=hp
 cases x with
 | normal=>exact .inl rfl
 | exit id=>exact .inr (.inl ⟨id,rfl⟩)
 | ret=>exact .inr (.inr rfl)
theorem Yf.loop (a1:Yf K P n rd b ds ts h .normal ds1 ts1 h1) (a2:Yf K P n rd (.loop b) ds1 ts1 h1 x ds2 ts2 h2):Yf K P n rd (.loop b) ds ts h x ds2 ts2 h2:=by
 intro D ρ w a r m hr hd ht hm hrd
 refine Ni (fun _ _ _ hp=>Wm.ends hp) (wpIn_mono (a1 D ρ w a r m hr hd ht hm hrd) ?_)
 rintro e a1 w1 ⟨rfl,ρ1,aft1,tr1,mk1⟩
 show (Code.loop b).wpIn (Wd r) m P _ a1 w1
 refine wpIn_mono (a2 D ρ1 w1 a1 r m aft1.rep (aft1.dom hd) tr1 mk1 (hrd.mono aft1.le)) ?_
 rintro e a2 w2 ⟨rfl,ρ2,aft2,tr2,mk2⟩
 exact⟨rfl,ρ2,aft1.trans aft2,tr2,mk2⟩
theorem Yf.Zl9 (hx:x≠.normal) (a1:Yf K P n rd b ds ts h x ds1 ts1 h1):Yf K P n rd (.loop b) ds ts h x ds1 ts1 h1:=by
 intro D ρ w a r m hr hd ht hm hrd
 refine Ni (fun _ _ _ hp=>Wm.ends hp) (wpIn_mono (a1 D ρ w a r m hr hd ht hm hrd) ?_)
 rintro e a1 w1 ⟨rfl,rest⟩
 cases x with
 | normal=>exact absurd rfl hx
 | exit id=>exact⟨rfl,rest⟩
 | ret=>exact⟨rfl,rest⟩
theorem Zv.body (F:Fits K P) (Hh:Hearts K P) {f:FuncId} {fn:Func} {body:Code} {args:List W} {v:V} (hc:K.clones.contains f=false) (hs:K.sorted.lookup f=none) (hf:K.funcs.get f=some fn) (hb:fn.body=some body) (hn:Nat.ble args.length fn.ntmps=true)
  (hbody:Yf K P fn.ntmps none body [] (Jj 0 args .nil) h x ds1 ts1 h1) (hl:leave K fn (some (.at x ds1 ts1 h1))=some (.val v h2)):Zv K P f args h v h2:=by
 classical
 let E:Task→Option Out:=fun t=>if t=.code body fn.ntmps none [] (Jj 0 args .nil) h then some (.at x ds1 ts1 h1) else none
 have S:Sound K P E:=by
  refine⟨fun f args h v h' he=>?_,fun c n rd ds ts h x ds' ts' h' he=>?_,fun t o he=>?_⟩
  ·simp only[E] at he
   rw[if_neg (by intro e; cases e)] at he
   cases he
  ·simp only[E] at he
   split at he
   ·rename_i e
    cases e
    cases he
    exact hbody
   ·cases he
  ·simp only[E] at he
   split at he
   ·rename_i e
    cases e
    cases he
    exact .inr ⟨_,_,_,_,_,_,_,_,_,_,rfl,rfl⟩
   ·cases he
 have T:=Ex F Hh S (Xm F S)
 refine T.call f args h v h2 ?_
 show Bz K E f args h=_
 unfold Bz
 rw[hc,hs]
 show enter K E args h (K.funcs.get f)=_
 rw[hf]
 unfold enter
 simp only[hb,hn,cond_true,E,if_true]
 exact hl
end
end Go.Ev
/- Slots as a full tree; memory that loses objects. -/
namespace Go.Ev
open Go.RowKit
section
variable {K:Cfg} {P:Program} {n:Nat} {rd:Option Nat} {ds ds1:List Nat} {ts ts' ts1 ts2:Zw} {h h1 h2:H} {x:Ev.X} {c:Code}
theorem Yf.congr (e:∀ i,Zi ts i=Zi ts' i) (a1:Yf K P n rd c ds ts h x ds1 ts1 h1):Yf K P n rd c ds ts' h x ds1 ts1 h1 :=
 fun D ρ w a r m hr hd ht hm hrd=>a1 D ρ w a r m hr hd ⟨ht.1,fun i=>by rw[e i]; exact ht.2 i⟩ hm hrd
theorem Rep.weak {ρ:Ren} {w:World} (hw:∀ n o,h2.get n=some o→h1.get n=some o) (hr:Rep K ρ h1 w):Rep K ρ h2 w :=
 ⟨hr.glob,fun n o e=>hr.obj n o (hw n o e),fun n n' o o' l l' hne e e'=>hr.inj n n' o o' l l' hne (hw n o e) (hw n' o' e')⟩
end
end Go.Ev
/- Laws by which the evaluator is run on slots that are not all known. -/
namespace Go.Ev
open Go.RowKit
section
variable {K:Cfg} {X:Kn} {E:Task→Option Out} {n k:Nat} {rd:Option Nat} {ds:List Nat} {ts:Zw} {h:H} {all:List Oper}
theorem Zls (d:Option Tmp) (op:Op) (t:TypeId) (p:String) (a:Array Edge):Q5 K E all n ts h ⟨d,op,t,p,a,none⟩=Tj n ts d (Jv K E ts h op):=rfl
theorem Zl (d:Tmp) (v:V) (hd:Nat.blt d n=true):Tj n ts (some d) (some (v,h))=some (ts.set d v,h):=by
 unfold Tj Mr
 simp only[hd,cond_true]
theorem Zos (v:V):Tj n ts none (some (v,h))=some (ts,h):=rfl
theorem Zun (x:Operand):Jv K E ts h (.move x)=Mq h (Gf K ts x):=rfl
theorem Znp (x:Operand):Jv K E ts h (.assign x)=Mq h (Gf K ts x):=rfl
theorem Zry (op:BinOp) (t:TypeId) (x y:Operand) (u:TypeId):Jv K E ts h (.binOp op t x y u)=Ou h (binop K op t (evalW K ts x) (evalW K ts y)):=rfl
theorem Zup (op:UnOp) (t:TypeId) (x:Operand):Jv K E ts h (.unOp op t x)=Ou h (Zm3 op (Zx K ts x)):=rfl
theorem Zk5 (s t:TypeId) (x:Operand):Jv K E ts h (.convert s t x)=Zfl K h (Nat.beq s t) (K.types.get s) (Zx K ts x) (Zfk K h (K.types.get s) (K.types.get t) (Zx K ts x) (G5 h (K.types.get s) (K.types.get t) (Zx K ts x))):=rfl
theorem Zmk (b:Bool) (s:Option TI) (c:Option C) (r:V × H):Zfl K h b s c (some r)=some r:=rfl
theorem Zmj (b:Bool) (s:Option TI) (c:Option C):Zfl K h b s c none=bif b then Q3 K h s c else none:=rfl
theorem Zmi (s t:Option TI) (c:Option C) (r:V × H):Zfk K h s t c (some r)=some r:=rfl
theorem Zmh (s t:Option TI) (c:Option C):Zfk K h s t c none=Sn K h s t c:=rfl
theorem Zum (t:TypeId) (x:Operand):Jv K E ts h (.load t x)=Zb5 K h t (Zx K ts x):=rfl
theorem Zr5 (t:TypeId) (x y:Operand):Jv K E ts h (.store t x y)=Xu K h t (Zx K ts x) (evalW K ts y):=rfl
theorem Zgr (t:TypeId) (x i:Operand):Jv K E ts h (.indexAddr t x i)=Ou h (Gl K (K.types.get t) (Zx K ts x) (Ux (Zx K ts i))):=rfl
theorem Zr1 (t:TypeId) (x i:Operand):Jv K E ts h (.index t x i)=En h (Ed K (K.types.get t) (evalW K ts x) (Ux (Zx K ts i))):=rfl
theorem Zk4 (b:Builtin) (args:Array Operand) (tys:Array TypeId):Jv K E ts h (.call ⟨.builtin b,args,tys⟩)=U9 K h b tys.toList (Om K ts args.toList):=rfl
theorem Zzj (tys:List TypeId) (args:Option (List W)):U9 K h .len tys args=Zt K h .len tys args:=rfl
theorem Znt (tys:List TypeId) (args:Option (List W)):U9 K h .append tys args=Zt K h .append tys args:=rfl
theorem Znu (tys:List TypeId) (args:Option (List W)):U9 K h .delete tys args=Zt K h .delete tys args:=rfl
theorem Zr7 (tys:List TypeId) (args:Option (List W)):U9 K h .clear tys args=Zt K h .clear tys args:=rfl
theorem Zzl (tys:List TypeId) (args:Option (List W)):U9 K h .min tys args=Zt K h .min tys args:=rfl
theorem Zzk (tys:List TypeId) (args:Option (List W)):U9 K h .max tys args=Zt K h .max tys args:=rfl
theorem Zu2 (tys:List TypeId) (args:Option (List W)):U9 K h .copy tys args=Zdt K h tys args:=rfl
theorem Zul (f:Operand) (args:Array Operand) (tys:Array TypeId):Jv K E ts h (.call ⟨.value f,args,tys⟩)=Zhx (L8 E h (Om K ts args.toList) (Zx K ts f)):=rfl
theorem Z0 (t:Tmp):Gf K ts (.tmp t)=some (Zi ts t):=rfl
theorem Zlu (v:Value):Gf K ts (.const v)=Qs v:=rfl
theorem Zn5 (f:FuncId):Gf K ts (.func f)=some (.w (.c (.fn f [] []))):=rfl
end
end Go.Ev
/- Contracts in small memories, carried to great ones: names are renamed, the rest stays. -/
namespace Go.Ev
open Go.RowKit
def Z3p (σ:Nat→Nat):Option (Nat × Nat)→Option (Nat × Nat)
 | some (n,o)=>some (σ n,o)
 | none=>none
def C.ren (σ:Nat→Nat):C→C
 | .ptr n o=>.ptr (σ n) o
 | .slice n off len sz=>.slice (σ n) off len sz
 | .map n=>.map (σ n)
 | .fn f a b=>.fn f (a.map (Z3p σ)) (b.map (Z3p σ))
 | .yield l=>.yield (σ l)
 | .bool b=>.bool b
 | .int k n=>.int k n
 | .str s=>.str s
 | .pnil=>.pnil
 | .snil=>.snil
 | .mnil=>.mnil
 | .nilFn=>.nilFn
def W.ren (σ:Nat→Nat):W→W
 | .c x=>.c (x.ren σ)
 | .g l=>.g (l.map (C.ren σ))
def V.ren (σ:Nat→Nat):V→V
 | .w x=>.w (x.ren σ)
 | .tup l=>.tup (l.map (W.ren σ))
def Z5q (σ:Nat→Nat) (p:W × W):W × W:=(p.1.ren σ,p.2.ren σ)
def O.ren (σ:Nat→Nat):O→O
 | .row sz els ro=>.row sz (els.map (List.map (C.ren σ))) ro
 | .map es=>.map (es.map (Z5q σ))
 | o=>o
def O.simple:O→Bool
 | .row _ _ _=>true
 | .map _=>true
 | _=>false
section
variable {ρ:Ren} {σ:Nat→Nat}
theorem Lt {α β γ:Type} {R:β→γ→Prop} {f:α→β}:∀ {l:List α} {m:List γ},Yj R (l.map f) m ↔ Yj (fun a c=>R (f a) c) l m
 | [],[]=>Iff.rfl
 | [],_ :: _=>Iff.rfl
 | _ :: _,[]=>Iff.rfl
 | _ :: _,_ :: _=>and_congr Iff.rfl Lt
theorem Nv {α β:Type} {R R':α→β→Prop} (h:∀ a b,R a b ↔ R' a b) {l:List α} {m:List β}:Yj R l m ↔ Yj R' l m :=
 ⟨Yj.mono fun a b=>(h a b).1,Yj.mono fun a b=>(h a b).2⟩
theorem Zlh (p:Option (Nat × Nat)) (v:Value):Nt ρ (Z3p σ p) v ↔ Nt (fun n=>ρ (σ n)) p v:=by cases p<;>exact Iff.rfl
theorem Zdj (c:C) (v:Value):Con ρ (c.ren σ) v ↔ Con (fun n=>ρ (σ n)) c v:=by
 cases c with
 | fn f a b =>
  simp only[C.ren,Con]
  refine exists_congr fun x=>exists_congr fun y=>and_congr Iff.rfl (and_congr ?_ ?_)
  ·exact Lt.trans (Nv Zlh)
  ·exact Lt.trans (Nv Zlh)
 | _=>exact Iff.rfl
theorem Vf (x:W) (v:Value):Jn ρ (x.ren σ) v ↔ Jn (fun n=>ρ (σ n)) x v:=by
 cases x with
 | c x=>exact Zdj x v
 | g l=>exact exists_congr fun cs=>and_congr Iff.rfl (Lt.trans (Nv Zdj))
theorem Zli (x:V) (v:Value):Oh ρ (x.ren σ) v ↔ Oh (fun n=>ρ (σ n)) x v:=by
 cases x with
 | w x=>exact Vf x v
 | tup l=>exact exists_congr fun cs=>and_congr Iff.rfl (Lt.trans (Nv Vf))
theorem Zti (sz:Nat) (els:List (List C)) (k:Nat):read1 sz (els.map (List.map (C.ren σ))) k=(read1 sz els k).map (C.ren σ):=by
 unfold read1
 rw[List.getElem?_map]
 cases els[k / sz]? with
 | none=>rfl
 | some e=>exact List.getElem?_map ..
theorem Vx {w:World} {o:O} (hs:o.simple=true) (l:Loc):G6 ρ w (o.ren σ) l ↔ G6 (fun n=>ρ (σ n)) w o l:=by
 cases o with
 | row sz els ro =>
  simp only[O.ren,G6,Zti]
  refine exists_congr fun cs=>exists_congr fun t=>exists_congr fun fr=>and_congr Iff.rfl (and_congr Iff.rfl (and_congr Iff.rfl (and_congr ?_ ?_)))
  ·simp
  ·constructor
   ·intro h k c hc
    obtain⟨v,h1,h2⟩:=h k (c.ren σ) (by rw[hc]; rfl)
    exact⟨v,h1,(Zdj c v).1 h2⟩
   ·intro h k c hc
    cases hr:read1 sz els k with
    | none=>rw[hr] at hc; cases hc
    | some c0 =>
     rw[hr] at hc
     cases hc
     obtain⟨v,h1,h2⟩:=h k c0 hr
     exact⟨v,h1,(Zdj c0 v).2 h2⟩
 | map es =>
  simp only[O.ren,G6]
  refine exists_congr fun xs=>exists_congr fun cl=>and_congr Iff.rfl (and_congr ?_ Iff.rfl)
  exact Lt.trans (Nv fun p e=>and_congr (Vf _ _) (Vf _ _))
 | _=>cases hs
theorem Zfu (o:O):(o.ren σ).ro=o.ro:=by cases o<;>rfl
end
section
variable {K:Cfg} {P:Program} {h0 h1 h h':H} {f:FuncId} {args:List W} {v:V} {σ:Nat→Nat}
structure Lies (K:Cfg) (σ:Nat→Nat) (h0 h:H):Prop where
 new:∀ n,h0.next≤n→σ n=h.next+(n - h0.next)
 old:∀ n,n<h0.next→σ n<h.next
 obj:∀ n o,h0.get n=some o→o.simple=true∧∃ o',h.get (σ n)=some o'∧(o'=o.ren σ∨∃ sz els,o=.row sz els true∧o'=(O.row sz els false).ren σ)
 inj:∀ n n' o o',h0.get n=some o→h0.get n'=some o'→n≠n'→σ n≠σ n'
 glob:∀ g n,K.globs.get g=some n→σ n=n
structure Lain (σ:Nat→Nat) (h0 h1 h h':H):Prop where
 next:h'.next=h.next+(h1.next - h0.next)
 obj:∀ m o',h'.get m=some o'→(h.get m=some o'∧∀ n o,h0.get n=some o→σ n=m→o.ro=true)∨∃ n o,h1.get n=some o∧o.ro=false∧o.simple=true∧σ n=m∧o'=o.ren σ
theorem Lies.rep {ρ:Ren} {w:World} (L:Lies K σ h0 h) (hr:Rep K ρ h w):Rep K (fun n=>ρ (σ n)) h0 w:=by
 refine⟨fun g n hg=>?_,fun n o ho=>?_,fun n n' o o' l l' hne ho ho' hl hl'=>?_⟩
 ·obtain⟨r,e⟩:=hr.glob g n hg
  exact⟨r,by rw[L.glob g n hg]; exact e⟩
 ·obtain⟨hs,o',ho',e⟩:=L.obj n o ho
  obtain⟨l,hl,hor⟩:=hr.obj _ o' ho'
  refine⟨l,hl,(Vx hs l).1 ?_⟩
  rcases e with rfl|⟨sz,els,rfl,rfl⟩
  ·exact hor
  ·obtain⟨cs,t,fr,e1,e2,_,e4⟩:=hor
   exact⟨cs,t,fr,e1,e2,(by intro h; cases h),e4⟩
 ·obtain⟨_,x,hx,e1⟩:=L.obj n o ho
  obtain⟨_,x',hx',e2⟩:=L.obj n' o' ho'
  have r1:∀ (o x:O),o.ro=false→(x=o.ren σ∨∃ sz els,o=.row sz els true∧x=(O.row sz els false).ren σ)→x.ro=false:=fun o x q e=>by
   rcases e with rfl|⟨_,_,rfl,_⟩
   ·rw[Zfu]; exact q
   ·cases q
  exact fun hq=>hr.inj (σ n) (σ n') x x' l l' (L.inj n n' o o' ho ho' hne) hx hx' hl hl' (hq.imp (fun q=>r1 _ _ q e1) (fun q=>r1 _ _ q e2))
theorem Zv.frame (C0:Zv K P f args h0 v h1) (L:Lies K σ h0 h) (B:Lain σ h0 h1 h h'):Zv K P f (args.map (W.ren σ)) h (v.ren σ) h':=by
 refine⟨C0.1,fun ρ w vals r m hr hd ha=>?_⟩
 have hd0:Dom (fun n=>ρ (σ n)) h0.next:=fun n hn=>by
  show ρ (σ n)=none
  rw[L.new n hn]
  exact hd _ (by omega)
 refine (C0.2 (fun n=>ρ (σ n)) w vals r m (L.rep hr) hd0 ((Nv Vf).1 (Lt.1 ha))).mono ?_
 rintro e w' ⟨ρ0,val,rfl,aft,hv⟩
 let ρ':Ren:=fun m=>if m<h.next then ρ m else ρ0 (h0.next+(m - h.next))
 have hρ:(fun n=>ρ' (σ n))=ρ0:=by
  funext n
  by_cases hn:n<h0.next
  ·have h1:=L.old n hn
   have e:ρ' (σ n)=ρ (σ n):=if_pos h1
   show ρ' (σ n)=ρ0 n
   rw[e]
   cases hx:ρ0 n with
   | none =>
    cases hy:ρ (σ n) with
    | none=>rfl
    | some l =>
     have:=aft.le n l hy
     rw[hx] at this
     cases this
   | some l =>
    rcases aft.new n l hx with hy|hy
    ·exact hy
    ·omega
  ·have e1:=L.new n (by omega)
   show ρ' (σ n)=ρ0 n
   have e:ρ' (σ n)=ρ0 (h0.next+(σ n - h.next)):=if_neg (by rw[e1]; omega)
   rw[e]
   congr 1
   omega
 have hle:Ren.le ρ ρ':=fun n l hl=>by
  have:n<h.next:=by
   rcases Nat.lt_or_ge n h.next with h1|h1
   ·exact h1
   ·rw[hd n h1] at hl; cases hl
  show (if n<h.next then ρ n else _)=some l
  rw[if_pos this]
  exact hl
 have hup:=aft.up
 have mine0:∀ k,Mine (fun n=>ρ (σ n)) h0 k→Mine ρ h k:=by
  rintro k ⟨n,o,l,ho,hro,hl,hk⟩
  obtain⟨_,o',ho',e⟩:=L.obj n o ho
  rcases e with rfl|⟨sz,els,rfl,rfl⟩
  ·exact⟨σ n,_,l,ho',by rw[Zfu]; exact hro,hl,hk⟩
  ·cases hro
 have away:∀ m o l,h.get m=some o→(∀ n o,h0.get n=some o→σ n=m→o.ro=true)→ρ m=some l→¬ Mine (fun n=>ρ (σ n)) h0 l.blk:=by
  rintro m o l ho hn hl ⟨n,o0,l0,ho0,hro,hl0,hk⟩
  by_cases e:σ n=m
  ·rw[hn n o0 ho0 e] at hro
   cases hro
  ·obtain⟨_,o',ho',e'⟩:=L.obj n o0 ho0
   have r1:o'.ro=false:=by
    rcases e' with rfl|⟨_,_,rfl,_⟩
    ·rw[Zfu]; exact hro
    ·cases hro
   exact hr.inj (σ n) m o' o l0 l e ho' ho hl0 hl (.inl r1) hk
 have mine1:∀ n o l,h1.get n=some o→o.ro=false→ρ' (σ n)=some l→Mine ρ0 h1 l.blk:=fun n o l ho hro hl=>⟨n,o,l,ho,hro,by rw[←hρ]; exact hl,rfl⟩
 refine⟨ρ',val,rfl,⟨hle,fun m l hm=>?_,⟨fun g n hg=>?_,fun m o ho=>?_,fun m m' o o' l l' hne ho ho' hl hl'=>?_⟩,⟨aft.fr.os,aft.fr.tape,aft.fr.output,aft.fr.size,fun k hk hn=>aft.fr.keep k hk (fun h=>hn (mine0 k h)),fun k hk=>?_,fun m o ho hro=>?_⟩,by rw[B.next]; omega⟩,?_⟩
 ·
  by_cases h1:m<h.next
  ·have:ρ' m=ρ m:=if_pos h1
   exact .inl (this ▸ hm)
  ·have e:ρ' m=ρ0 (h0.next+(m - h.next)):=if_neg h1
   rw[e] at hm
   rcases aft.new _ _ hm with hy|hy
   ·rw[hd0 _ (by omega)] at hy; cases hy
   ·right
    rw[B.next]
    omega
 ·obtain⟨r,e⟩:=hr.glob g n hg
  exact⟨r,hle _ _ e⟩
 ·rcases B.obj m o ho with ⟨ho1,hn⟩|⟨n,o0,ho1,hro,hs,rfl,rfl⟩
  ·obtain⟨l,hl,hor⟩:=hr.obj m o ho1
   refine⟨l,hle _ _ hl,(hor.congr ?_).mono hle⟩
   exact aft.fr.keep l.blk hor.lt (away m o l ho1 hn hl)
  ·obtain⟨l,hl,hor⟩:=aft.rep.obj n o0 ho1
   rw[←hρ] at hl hor
   exact⟨l,hl,(Vx hs l).2 hor⟩
 ·rcases B.obj m o ho with ⟨ho1,hn⟩|⟨n,o0,ho1,hro,hs,rfl,rfl⟩
  ·obtain⟨lm,hlm,hor⟩:=hr.obj m o ho1
   have e:=hle _ _ hlm
   rw[hl] at e
   cases e
   rcases B.obj m' o' ho' with ⟨ho2,hn'⟩|⟨n',o0',ho2,hro',hs',rfl,rfl⟩
   ·obtain⟨lm',hlm',hor'⟩:=hr.obj m' o' ho2
    have e:=hle _ _ hlm'
    rw[hl'] at e
    cases e
    exact hr.inj m m' o o' l l' hne ho1 ho2 hlm hlm'
   ·intro _ e
    rcases aft.fr.fresh l'.blk (mine1 n' o0' l' ho2 hro' hl') with h2|h2
    ·have:=hor.lt; omega
    ·exact away m o l ho1 hn hlm (e ▸ h2)
  ·rcases B.obj m' o' ho' with ⟨ho2,hn'⟩|⟨n',o0',ho2,hro',hs',rfl,rfl⟩
   ·obtain⟨lm',hlm',hor'⟩:=hr.obj m' o' ho2
    have e:=hle _ _ hlm'
    rw[hl'] at e
    cases e
    intro _ e
    rcases aft.fr.fresh l.blk (mine1 n o0 l ho1 hro hl) with h2|h2
    ·have:=hor'.lt; omega
    ·exact away m' o' l' ho2 hn' hlm' (e ▸ h2)
   ·refine fun _=>aft.rep.inj n n' o0 o0' l l' (fun e=>hne (by rw[e])) ho1 ho2 ?_ ?_ (.inl hro)
    ·rw[←hρ]; exact hl
    ·rw[←hρ]; exact hl'
 ·obtain⟨m,o,l,ho,hro,hl,hk⟩:=hk
  rcases B.obj m o ho with ⟨ho1,hn⟩|⟨n,o0,ho1,hro1,hs,rfl,rfl⟩
  ·obtain⟨lm,hlm,_⟩:=hr.obj m o ho1
   have e:=hle _ _ hlm
   rw[hl] at e
   cases e
   exact .inr ⟨m,o,l,ho1,hro,hlm,hk⟩
  ·have h2:=mine1 n o0 l ho1 hro1 hl
   rw[hk] at h2
   rcases aft.fr.fresh k h2 with h3|h3
   ·exact .inl h3
   ·exact .inr (mine0 k h3)
 ·rcases B.obj m o ho with ⟨ho1,_⟩|⟨n,o0,ho1,hro1,hs,rfl,rfl⟩
  ·exact ho1
  ·rw[Zfu,hro1] at hro; cases hro
 ·rw[Zli,hρ]
  exact hv
end
end Go.Ev
/- Walking on the evaluator's level: what code comes to, with what is known of slots and memory. -/
namespace Go.Ev
open Go.RowKit
structure Goes (K:Cfg) (P:Program) (n:Nat) (rd:Option Nat) (c:Code) (ds:List Nat) (ts:Zw) (h:H) (Q:X→List Nat→Zw→H→Prop):Prop where
 ex:∃ x ds' ts' h',Yf K P n rd c ds ts h x ds' ts' h'∧Q x ds' ts' h'
def then2 (p:Option (Zw × H)) (Q:Zw→H→Prop):Prop:=match p with
 | some p=>Q p.1 p.2
 | none=>False
section
variable {K:Cfg} {P:Program} {n:Nat} {rd:Option Nat} {ds:List Nat} {ts:Zw} {h:H} {Q R:X→List Nat→Zw→H→Prop} {a b c:Code} {id:Nat}
theorem Goes.mono (g:Goes K P n rd c ds ts h Q) (hq:∀ x ds ts h,Q x ds ts h→R x ds ts h):Goes K P n rd c ds ts h R:=by
 obtain⟨x,ds',ts',h',g1,g2⟩:=g
 exact⟨x,ds',ts',h',g1,hq _ _ _ _ g2⟩
theorem Zp (g:Goes K P n rd a ds ts h fun x ds ts h=>match x with
  | .normal=>Goes K P n rd b ds ts h Q
  | x=>Q x ds ts h):Goes K P n rd (.seq a b) ds ts h Q:=by
 obtain⟨x,ds',ts',h',g1,g2⟩:=g
 cases x with
 | normal =>
  obtain⟨y,ds2,ts2,h2,g3,g4⟩:=g2
  exact⟨y,ds2,ts2,h2,Yf.seq g1 g3,g4⟩
 | exit id=>exact⟨_,_,_,_,Yf.Zrm (by intro e; cases e) g1,g2⟩
 | ret=>exact⟨_,_,_,_,Yf.Zrm (by intro e; cases e) g1,g2⟩
theorem Yk (g:Goes K P n rd b ds ts h fun x ds ts h=>match x with
  | .normal=>Q .normal ds ts h
  | .ret=>Q .ret ds ts h
  | .exit id'=>if id'=id then Q .normal ds ts h else False):Goes K P n rd (.block id b) ds ts h Q:=by
 obtain⟨x,ds',ts',h',g1,g2⟩:=g
 cases x with
 | normal=>exact⟨_,_,_,_,Yf.block g1,g2⟩
 | ret=>exact⟨_,_,_,_,Yf.Zg9 g1,g2⟩
 | exit id' =>
  simp only at g2
  split at g2
  ·rename_i e
   subst e
   exact⟨_,_,_,_,Yf.Zd7 g1,g2⟩
  ·exact g2.elim
theorem Yt (g:Goes K P n rd b ds ts h fun x ds ts h=>match x with
  | .normal=>Goes K P n rd (.loop b) ds ts h Q
  | x=>Q x ds ts h):Goes K P n rd (.loop b) ds ts h Q:=by
 obtain⟨x,ds',ts',h',g1,g2⟩:=g
 cases x with
 | normal =>
  obtain⟨y,ds2,ts2,h2,g3,g4⟩:=g2
  exact⟨y,ds2,ts2,h2,Yf.loop g1 g3,g4⟩
 | exit id=>exact⟨_,_,_,_,Yf.Zl9 (by intro e; cases e) g1,g2⟩
 | ret=>exact⟨_,_,_,_,Yf.Zl9 (by intro e; cases e) g1,g2⟩
theorem Goes.cond {o:Operand} {v:Bool} (hc:Zx K ts o=some (.bool v)) (g:if v=true then Goes K P n rd a ds ts h Q else Goes K P n rd b ds ts h Q):Goes K P n rd (.cond o a b) ds ts h Q:=by
 cases v with
 | true =>
  obtain⟨x,ds',ts',h',g1,g2⟩:=g
  exact⟨_,_,_,_,Yf.cond_true hc g1,g2⟩
 | false =>
  simp only[Bool.false_eq_true,if_false] at g
  obtain⟨x,ds',ts',h',g1,g2⟩:=g
  exact⟨_,_,_,_,Yf.cond_false hc g1,g2⟩
theorem Goes.Z4z {o:Operand} (hc:Zx K ts o=some (.bool true)) (g:Goes K P n rd a ds ts h Q):Goes K P n rd (.cond o a b) ds ts h Q:=Goes.cond hc g
theorem Goes.Z4y {o:Operand} (hc:Zx K ts o=some (.bool false)) (g:Goes K P n rd b ds ts h Q):Goes K P n rd (.cond o a b) ds ts h Q:=Goes.cond hc g
theorem Goes.scope (g:Goes K P n rd b ds ts h Q):Goes K P n rd (.scope b) ds ts h Q:=by
 obtain⟨x,ds',ts',h',g1,g2⟩:=g
 exact⟨_,_,_,_,Yf.scope g1,g2⟩
theorem Goes.label {l:Nat} (q:Q .normal ds ts h):Goes K P n rd (.label l) ds ts h Q:=⟨_,_,_,_,Yf.label,q⟩
theorem Z6 (q:Q .normal ds ts h):Goes K P n rd .skip ds ts h Q:=⟨_,_,_,_,Yf.skip,q⟩
theorem Oe (q:Q (.exit id) ds ts h):Goes K P n rd (.exit id) ds ts h Q:=⟨_,_,_,_,Yf.exit,q⟩
theorem Yb (q:Q .ret ds ts h):Goes K P n rd .ret ds ts h Q:=⟨_,_,_,_,Yf.ret,q⟩
theorem Goes.ok {x:X} {ds':List Nat} {ts':Zw} {h':H} (g:Yf K P n rd c ds ts h x ds' ts' h') (q:Q x ds' ts' h'):Goes K P n rd c ds ts h Q:=⟨_,_,_,_,g,q⟩
theorem Goes.congr {ts':Zw} (e:∀ i,Zi ts i=Zi ts' i) (g:Goes K P n rd c ds ts h Q):Goes K P n rd c ds ts' h Q:=by
 obtain⟨x,ds',ts2,h',g1,g2⟩:=g
 exact⟨x,ds',ts2,h',Yf.congr e g1,g2⟩
def E0:Task→Option Out:=fun _=>none
theorem Za:Sound K P E0:=⟨fun _ _ _ _ _ h=>(by cases h),fun _ _ _ _ _ _ _ _ _ _ h=>(by cases h),fun _ _ h=>(by cases h)⟩
open Classical in
noncomputable def E1 (E:Task→Option Out) (f:FuncId) (args:List W) (h:H) (v:V) (h':H):Task→Option Out:=fun t=>if t=.call f args h then some (.val v h') else E t
theorem Zu {E:Task→Option Out} (S:Sound K P E) {f:FuncId} {args:List W} {v:V} {h':H} (c:Zv K P f args h v h'):Sound K P (E1 E f args h v h'):=by
 refine⟨fun g us k u k' he=>?_,fun c n rd ds ts h x ds' ts' h' he=>?_,fun t o he=>?_⟩
 ·simp only[E1] at he
  split at he
  ·rename_i e
   cases e
   cases he
   exact c
  ·exact S.call g us k u k' he
 ·simp only[E1] at he
  split at he
  ·rename_i e
   cases e
  ·exact S.code c n rd ds ts h x ds' ts' h' he
 ·simp only[E1] at he
  split at he
  ·rename_i e
   cases e
   cases he
   exact .inl ⟨_,_,_,_,_,rfl,rfl⟩
  ·exact S.shape t o he
theorem Z8 (E:Task→Option Out) (f:FuncId) (args:List W) (h:H) (v:V) (h':H):E1 E f args h v h' (.call f args h)=some (.val v h'):=by simp [E1]
theorem Goes.ops (F:Fits K P) (Hh:Hearts K P) {E:Task→Option Out} (S:Sound K P E) {ops:Array Oper} (g:then2 (F7 K E ops.toList n ops.toList ts h) fun ts h=>Q .normal ds ts h):Goes K P n rd (.region id ops false) ds ts h Q:=by
 cases e:F7 K E ops.toList n ops.toList ts h with
 | none=>rw[e] at g; exact g.elim
 | some p =>
  obtain⟨ts',h'⟩:=p
  rw[e] at g
  have T:=Ex F Hh S (Xm F S)
  refine⟨.normal,ds,ts',h',T.code (.region id ops false) n rd ds ts h .normal ds ts' h' ?_,g⟩
  show Zfn ds (F7 K E ops.toList n ops.toList ts h)=_
  rw[e]
  rfl
theorem Goes.drawn (F:Fits K P) (Hh:Hearts K P) {E:Task→Option Out} (S:Sound K P E) {ops:Array Oper} (g:then2 (R8 K E ops.toList n ts h) fun ts h=>Q .normal ds ts h):Goes K P n rd (.region id ops true) ds ts h Q:=by
 cases e:R8 K E ops.toList n ts h with
 | none=>rw[e] at g; exact g.elim
 | some p =>
  obtain⟨ts',h'⟩:=p
  rw[e] at g
  have T:=Ex F Hh S (Xm F S)
  refine⟨.normal,ds,ts',h',T.code (.region id ops true) n rd ds ts h .normal ds ts' h' ?_,g⟩
  show Zfn ds (R8 K E ops.toList n ts h)=_
  rw[e]
  rfl
theorem Goes.ev (F:Fits K P) (Hh:Hearts K P) {Y:Kn} (hX:Zdz K P Y) {k:Nat} {x:X} {ds':List Nat} {ts':Zw} {h':H} (e:evX K Y k (.code c n rd ds ts h)=some (.at x ds' ts' h')) (q:Q x ds' ts' h'):Goes K P n rd c ds ts h Q :=
 ⟨_,_,_,_,Yf.ev F Hh hX e,q⟩
theorem Zv.goes (F:Fits K P) (Hh:Hearts K P) {f:FuncId} {fn:Func} {body:Code} {args:List W} {v:V} {h':H} (hc:K.clones.contains f=false) (hs:K.sorted.lookup f=none) (hf:K.funcs.get f=some fn) (hb:fn.body=some body) (hn:Nat.ble args.length fn.ntmps=true)
  (g:Goes K P fn.ntmps none body [] (Jj 0 args .nil) h fun x ds ts h1=>leave K fn (some (.at x ds ts h1))=some (.val v h')):Zv K P f args h v h':=by
 obtain⟨x,ds',ts',h1,g1,g2⟩:=g
 exact Zv.body F Hh hc hs hf hb hn g1 g2
theorem Zv.weak {f:FuncId} {args:List W} {v:V} {h1 h2:H} (c:Zv K P f args h v h1) (hn:h2.next=h1.next) (hw:∀ n o,h2.get n=some o→h1.get n=some o):Zv K P f args h v h2:=by
 refine⟨c.1,fun ρ w vals r m hr hd ha=>(c.2 ρ w vals r m hr hd ha).mono ?_⟩
 rintro e w' ⟨ρ',val,rfl,aft,hv⟩
 refine⟨ρ',val,rfl,⟨aft.le,by rw[hn]; exact aft.new,aft.rep.weak hw,⟨aft.fr.os,aft.fr.tape,aft.fr.output,aft.fr.size,aft.fr.keep,fun k hk=>?_,fun n o ho hro=>aft.fr.ro n o (hw n o ho) hro⟩,by rw[hn]; exact aft.up⟩,hv⟩
 obtain⟨n,o,l,ho,rest⟩:=hk
 exact aft.fr.fresh k ⟨n,o,l,hw n o ho,rest⟩
theorem Y6 {s k d:Nat} {v:V} (hs:s≤k) (hd:k<d):Zi (ts.set d v) s=Zi ts s:=by rw[Zb,if_neg (by omega)]
theorem Um (args:List W) (j:Nat):Zi (Jj 0 args .nil) j=match args[j]? with
  | some v=>.w v
  | none=>undef:=by
 rw[T9]
 by_cases e:j<args.length
 ·rw[if_pos ⟨Nat.zero_le _,by omega⟩]; simp only[Nat.sub_zero]; rfl
 ·rw[if_neg (by omega),List.getElem?_eq_none (by omega)]; rfl
theorem Goes.ops2 (F:Fits K P) (Hh:Hearts K P) {E:Task→Option Out} (S:Sound K P E) {ops:Array Oper} {ts':Zw} {h':H} (g:F7 K E ops.toList n ops.toList ts h=some (ts',h')) (q:Q .normal ds ts' h'):Goes K P n rd (.region id ops false) ds ts h Q :=
 Goes.ops F Hh S (by rw[g]; exact q)
theorem Zv.tidy {f:FuncId} {args:List W} {v:V} {h':H} (hc:O6 P f) (c:(∀ n o,h.get n=some o→n<h.next)→Zv K P f args h v h'):Zv K P f args h v h':=by
 by_cases e:∀ n o,h.get n=some o→n<h.next
 ·exact c e
 ·refine⟨hc,fun ρ w vals r m hr hd ha=>(e fun n o ho=>?_).elim⟩
  obtain⟨l,hl,_⟩:=hr.obj n o ho
  rcases Nat.lt_or_ge n h.next with h1|h1
  ·exact h1
  ·rw[hd n h1] at hl; cases hl
end
section
variable {K:Cfg} {E:Task→Option Out} {n:Nat} {ts:Zw} {h:H} {all:List Oper}
theorem Zlr (d:Option Tmp) (op:Op) (t:TypeId) (p:String) (a:Array Edge) (j:Nat) (b:Bool):Q5 K E all n ts h ⟨d,op,t,p,a,some (j,b)⟩=bif Bg all ts (some (j,b)) then Tj n ts d (Jv K E ts h op) else Tj n ts d (some (undef,h)):=rfl
theorem Zuo (c a b:Operand):Jv K E ts h (.pick c a b)=Mq h (Vz K ts a b (Zx K ts c)):=rfl
theorem Zuk (t:TypeId):Jv K E ts h (.alloc t)=Sm h (K.types.get t):=rfl
theorem Zzc (t:TypeId) (x:Operand):Jv K E ts h (.box t x)=Yr h (evalW K ts x):=rfl
theorem Zrz (t:TypeId) (ps:Array (Nat × Operand)):Jv K E ts h (.build t ps)=En h (Yd K t (Jz K ts ps.toList)):=rfl
theorem Zd1 (t:TypeId) (len:Nat) (ps:Array (Nat × Operand)):Jv K E ts h (.buildSlice t len ps)=Y4 h len (Y1 K t) (Jz K ts ps.toList):=rfl
theorem Ziv (x:Operand):Jv K E ts h (.nilCheck x)=Ou h (Bo (Zx K ts x)):=rfl
theorem Zgs (t:TypeId) (l c:Operand):Jv K E ts h (.makeSlice t l c)=Ud h (Y1 K t) (Ux (Zx K ts l)) (Ux (Zx K ts c)):=rfl
theorem Zgq (t:TypeId) (x:Operand) (f:Nat):Jv K E ts h (.fieldAddr t x f)=Ou h (Gj (Zx K ts x) (Zk K t f)):=rfl
theorem Zr0 (t:TypeId) (x:Operand) (f:Nat):Jv K E ts h (.field t x f)=En h (M9 (evalW K ts x) (Zk K t f)):=rfl
theorem Zk6 (x:Operand) (i:Nat):Jv K E ts h (.extract x i)=En h (Dv i (Gf K ts x)):=rfl
theorem Znq (t:TypeId) (x k:Operand) (ok:Bool):Jv K E ts h (.lookup t x k ok)=Rl K h (Bc K t) (Zx K ts x) (evalW K ts k) ok:=rfl
theorem Zgt (t:TypeId) (m k v:Operand):Jv K E ts h (.mapUpdate t m k v)=Dw K h (Bc K t) (Zx K ts m) (evalW K ts k) (evalW K ts v):=rfl
theorem Zuh (k:IntKind) (z:Int):Qs (.int k z)=some (.w (.c (.int k z))):=rfl
theorem Zrs (b:Bool):Qs (.bool b)=some (.w (.c (.bool b))):=rfl
theorem Zsz (k:IntKind) (i:Nat):Ux (some (.int k (i:Int)))=some i:=rfl
theorem Zsy (k:IntKind) (i:Nat):Ux (some (.int k (OfNat.ofNat i:Int)))=some i:=rfl
theorem Zi0 (x:C):(W.c x).cells=[x]:=rfl
theorem Zi1 (l:List C):(W.g l).cells=l:=rfl
theorem Xa {l:List C} (h:0<l.length):Zm l.length [l] 0 l.length=some l:=by
 have e:Nat.beq l.length 0=false:=by
  cases hx:Nat.beq l.length 0 with
  | false=>rfl
  | true=>have:=Nat.eq_of_beq_eq_true hx; omega
 simp only[Zm,Nat.zero_div,Nat.zero_mod,List.getElem?_cons_zero,List.drop_zero,Nat.zero_add,e,cond_false]
 rw[List.take_of_length_le (Nat.le_refl _),Nat.ble_eq_true_of_le (Nat.le_refl _)]
 rfl
theorem Ta {l l':List C} (h:0<l'.length) (e:l.length=l'.length):Z9 l'.length [l] 0 l'=some [l']:=by
 match l',h with
 | [c],_ =>
  match l,e with
  | [d],_=>simp [Z9]; rfl
 | a :: b :: r,_ =>
  simp only[Z9,Nat.zero_div,Nat.zero_mod,List.getElem?_cons_zero,Nat.zero_add,List.take_zero,List.nil_append]
  rw[Nat.ble_eq_true_of_le (by omega),List.drop_of_length_le (by omega)]
  simp
theorem Ot (fn:Func) (ds:List Nat):leave K fn (some (.at .ret ds ts h))=finish K fn ts (Y7 ds h):=rfl
theorem Zjo (fn:Func) (ds:List Nat):leave K fn (some (.at .normal ds ts h))=finish K fn ts (Y7 ds h):=rfl
theorem nbeq10:Nat.beq 1 0=false:=rfl
theorem Z4q:(true == true)=true:=rfl
theorem Z4p:(true == false)=false:=rfl
theorem Z4o:(false == true)=false:=rfl
theorem Z4n:(false == false)=true:=rfl
theorem Ye:decide True=true:=rfl
theorem Z7:decide False=false:=rfl
theorem U6 {a b:Nat} (h:a<b):Nat.blt a b=true:=by simpa [Nat.blt_eq] using h
theorem wrap64 {z:Int} (h : -9223372036854775808≤z) (h':z<9223372036854775808):Yq .i64 z=.int .i64 z:=by
 unfold Yq IntKind.wrap
 congr 1
 show (if (true&&decide (z % 18446744073709551616 ≥ 9223372036854775808))=true then z % 18446744073709551616 - 18446744073709551616 else z % 18446744073709551616)=z
 rw[Bool.true_and]
 by_cases e:z % 18446744073709551616 ≥ 9223372036854775808
 ·rw[decide_eq_true e,if_pos rfl]; omega
 ·rw[decide_eq_false e,if_neg (by simp)]; omega
theorem Zxs {z:Int}:Yq .u8 z=.int .u8 (z % 256):=by
 unfold Yq IntKind.wrap
 congr 1
end
def Ut (fn:Func):Code:=match fn.body with
 | some c=>c
 | none=>.skip
def part (k:Nat) (c:Code):Code:=match k,c with
 | 0,.seq a _=>a
 | 1,.seq _ b=>b
 | 2,.block _ b=>b
 | 2,.loop b=>b
 | 2,.scope b=>b
 | 3,.cond _ a _=>a
 | 4,.cond _ _ b=>b
 | 5,.rangeFunc _ _ a _=>a
 | 6,.rangeFunc _ _ _ b=>b
 | _,_=>.skip
theorem part0 (a b:Code):part 0 (.seq a b)=a:=rfl
theorem part1 (a b:Code):part 1 (.seq a b)=b:=rfl
theorem part2 (i:Nat) (b:Code):part 2 (.block i b)=b:=rfl
theorem Z3l (b:Code):part 2 (.loop b)=b:=rfl
theorem Z3m (b:Code):part 2 (.scope b)=b:=rfl
theorem part3 (o:Operand) (a b:Code):part 3 (.cond o a b)=a:=rfl
theorem part4 (o:Operand) (a b:Code):part 4 (.cond o a b)=b:=rfl
theorem part5 (g:Operand) (ps:Array Tmp) (a b:Code):part 5 (.rangeFunc g ps a b)=a:=rfl
theorem part6 (g:Operand) (ps:Array Tmp) (a b:Code):part 6 (.rangeFunc g ps a b)=b:=rfl
def piece:List Nat→Code→Code
 | [],c=>c
 | k :: l,c=>piece l (part k c)
def Z3j:Code→Array Oper
 | .region _ ops _=>ops
 | _=>#[]
end Go.Ev
/- New names may be numbered anew. -/
namespace Go.Ev
open Go.RowKit
section
variable {K:Cfg} {P:Program} {h h1 h':H} {f:FuncId} {args:List W} {v v':V} {τ:Nat→Nat}
theorem Zv.Za3 (c:Zv K P f args h v h1) (hold:∀ m,m<h.next→τ m=m) (hbig:∀ m,h'.next≤m→h1.next≤τ m) (hup:h.next≤h'.next) (hv:v'.ren τ=v)
  (hobj:∀ m o,h'.get m=some o→(h.get m=some o∧h1.get m=some o)∨(o.simple=true∧o.ro=false∧h1.get (τ m)=some (o.ren τ)))
  (hinj:∀ m m' o o',h'.get m=some o→h'.get m'=some o'→m≠m'→τ m≠τ m'):Zv K P f args h v' h':=by
 refine⟨c.1,fun ρ w vals r m hr hd ha=>(c.2 ρ w vals r m hr hd ha).mono ?_⟩
 rintro e w' ⟨ρ',val,rfl,aft,hcon⟩
 have hd1:=aft.dom hd
 have lt:∀ m o,h.get m=some o→m<h.next:=fun m o ho=>by
  obtain⟨l,hl,_⟩:=hr.obj m o ho
  rcases Nat.lt_or_ge m h.next with h1|h1
  ·exact h1
  ·rw[hd m h1] at hl; cases hl
 have at1:∀ m o,h'.get m=some o→∃ o1,h1.get (τ m)=some o1∧o1.ro=o.ro:=fun m o ho=>by
  rcases hobj m o ho with ⟨a,b⟩|⟨_,_,b⟩
  ·exact⟨o,by rw[hold m (lt m o a)]; exact b,rfl⟩
  ·exact⟨_,b,Zfu o⟩
 have hle:Ren.le ρ (fun n=>ρ' (τ n)):=fun n l hl=>by
  have:n<h.next:=by
   rcases Nat.lt_or_ge n h.next with h1|h1
   ·exact h1
   ·rw[hd n h1] at hl; cases hl
  show ρ' (τ n)=some l
  rw[hold n this]
  exact aft.le n l hl
 refine⟨fun n=>ρ' (τ n),val,rfl,⟨hle,fun m l hm=>?_,⟨fun g n hg=>?_,fun m o ho=>?_,fun m m' o o' l l' hne ho ho' hl hl'=>?_⟩,⟨aft.fr.os,aft.fr.tape,aft.fr.output,aft.fr.size,aft.fr.keep,fun k hk=>?_,fun m o ho hro=>?_⟩,hup⟩,?_⟩
 ·have hm':ρ' (τ m)=some l:=hm
  rcases Nat.lt_or_ge m h.next with h2|h2
  ·rw[hold m h2] at hm'
   rcases aft.new m l hm' with h3|h3
   ·exact .inl h3
   ·omega
  ·rcases Nat.lt_or_ge m h'.next with h3|h3
   ·exact .inr ⟨h2,h3⟩
   ·rw[hd1 _ (hbig m h3)] at hm'; cases hm'
 ·obtain⟨r,e⟩:=hr.glob g n hg
  exact⟨r,hle _ _ e⟩
 ·rcases hobj m o ho with ⟨a,b⟩|⟨hs,_,b⟩
  ·obtain⟨l,hl,hor⟩:=hr.obj m o a
   obtain⟨l1,hl1,hor1⟩:=aft.rep.obj m o b
   have e:ρ' (τ m)=some l1:=by rw[hold m (lt m o a)]; exact hl1
   refine⟨l1,e,(hor1.cut (hor.sc hd)).mono fun n l hn=>?_⟩
   unfold Ren.cut at hn
   split at hn
   ·rename_i h2
    show ρ' (τ n)=some l
    rw[hold n h2]
    exact hn
   ·cases hn
  ·obtain⟨l,hl,hor⟩:=aft.rep.obj _ _ b
   exact⟨l,hl,(Vx hs l).1 hor⟩
 ·obtain⟨o1,ho1,hro1⟩:=at1 m o ho
  obtain⟨o1',ho1',hro2⟩:=at1 m' o' ho'
  exact fun hq=>aft.rep.inj (τ m) (τ m') o1 o1' l l' (hinj m m' o o' ho ho' hne) ho1 ho1' hl hl' (by rw[hro1,hro2]; exact hq)
 ·obtain⟨m,o,l,ho,hro,hl,hk⟩:=hk
  obtain⟨o1,ho1,hro1⟩:=at1 m o ho
  exact aft.fr.fresh k ⟨τ m,o1,l,ho1,by rw[hro1]; exact hro,hl,hk⟩
 ·rcases hobj m o ho with ⟨a,_⟩|⟨_,b,_⟩
  ·exact a
  ·rw[b] at hro; cases hro
 ·rw[←Zli,hv]
  exact hcon
def C.flat:C→Bool
 | .bool _|.int _ _|.str _|.pnil|.snil|.mnil|.nilFn=>true
 | _=>false
def W.flat:W→Bool
 | .c x=>x.flat
 | .g l=>l.all C.flat
def V.flat:V→Bool
 | .w x=>x.flat
 | .tup l=>l.all W.flat
theorem C.Jo {c:C} (h:c.flat=true) (σ:Nat→Nat):c.ren σ=c:=by cases c<;>first|rfl|cases h
theorem Uw {α:Type} {g:α→α} {p:α→Bool} (hg:∀ a,p a=true→g a=a):∀ {l:List α},l.all p=true→l.map g=l
 | [],_=>rfl
 | a :: l,h=>by
  simp only[List.all_cons,Bool.and_eq_true] at h
  rw[List.map_cons,hg a h.1,Uw hg h.2]
theorem W.Jo {x:W} (h:x.flat=true) (σ:Nat→Nat):x.ren σ=x:=by
 cases x with
 | c x=>show W.c _=_; rw[C.Jo h]
 | g l=>show W.g _=_; rw[Uw (fun a ha=>C.Jo ha σ) h]
theorem V.Jo {x:V} (h:x.flat=true) (σ:Nat→Nat):x.ren σ=x:=by
 cases x with
 | w x=>show V.w _=_; rw[W.Jo h]
 | tup l=>show V.tup _=_; rw[Uw (fun a ha=>W.Jo ha σ) h]
theorem Zv.quiet (c:Zv K P f args h v h1) (hv:v.flat=true) (hk:∀ m,m<h.next→h1.get m=h.get m):Zv K P f args h v h:=by
 refine Zv.tidy c.1 fun tidy=>?_
 refine c.Za3 (τ:=fun m=>if m<h.next then m else h1.next+m) (fun m hm=>if_pos hm) (fun m hm=>?_) (Nat.le_refl _) (V.Jo hv _) (fun m o ho=>.inl ⟨ho,?_⟩) (fun m m' o o' ho ho' hne=>?_)
 ·show h1.next≤if m<h.next then m else h1.next+m
  rw[if_neg (by omega)]
  omega
 ·rw[hk m (tidy m o ho)]; exact ho
 ·have e1:=tidy m o ho
  have e2:=tidy m' o' ho'
  show (if m<h.next then m else _)≠(if m'<h.next then m' else _)
  rw[if_pos e1,if_pos e2]
  exact hne
theorem Zv.row {n off len sz:Nat} {els:List (List C)} {ws:List W} (c:Zv K P f args h (.tup (.c (.slice n off len sz) :: ws)) h1) (hn:h.next≤n) (ho:h1.get n=some (.row sz els false)) (hw:ws.all W.flat=true) (he:els.all (fun l=>l.all C.flat)=true) (hlt:n<h1.next) (hk:∀ m,m<h.next→h1.get m=h.get m) :
  Zv K P f args h (.tup (.c (.slice h.next off len sz) :: ws)) (h.new (.row sz els false)):=by
 refine Zv.tidy c.1 fun tidy=>?_
 have hτ:∀ m,m<h.next→(if m<h.next then m else if m=h.next then n else h1.next+m)=m:=fun m hm=>if_pos hm
 have hτ2:(if h.next<h.next then h.next else if h.next=h.next then n else h1.next+h.next)=n:=by rw[if_neg (by omega),if_pos rfl]
 refine c.Za3 (τ:=fun m=>if m<h.next then m else if m=h.next then n else h1.next+m) hτ (fun m hm=>?_) (by rw[H.Zc]; omega) ?_ (fun m o hm=>?_) (fun m m' o o' hm hm' hne=>?_)
 ·rw[H.Zc] at hm
  show h1.next≤if m<h.next then m else if m=h.next then n else h1.next+m
  rw[if_neg (by omega),if_neg (by omega)]
  omega
 ·show V.tup (W.c (C.slice (if h.next<h.next then h.next else if h.next=h.next then n else h1.next+h.next) off len sz) :: ws.map _)=_
  rw[hτ2,Uw (fun a ha=>W.Jo ha _) hw]
 ·rw[H.Zd] at hm
  split at hm
  ·rename_i e
   subst e
   cases hm
   refine .inr ⟨rfl,rfl,?_⟩
   show h1.get (if h.next<h.next then h.next else if h.next=h.next then n else h1.next+h.next)=_
   rw[hτ2,ho]
   show some (O.row sz els false)=some (O.row sz (els.map (List.map (C.ren _))) false)
   rw[Uw (fun l hl=>Uw (fun a ha=>C.Jo ha _) hl) he]
  ·exact .inl ⟨hm,by rw[hk m (tidy m o hm)]; exact hm⟩
 ·have key:∀ m o,(h.new (.row sz els false)).get m=some o→m<h.next∨m=h.next:=fun m o hm=>by
   rw[H.Zd] at hm
   split at hm
   ·rename_i e; exact .inr e
   ·exact .inl (tidy m o hm)
  show (if m<h.next then m else if m=h.next then n else h1.next+m)≠(if m'<h.next then m' else if m'=h.next then n else h1.next+m')
  rcases key m o hm with e|e<;>rcases key m' o' hm' with e'|e'
  ·rw[if_pos e,if_pos e']; exact hne
  ·rw[if_pos e,if_neg (by omega),if_pos e']; omega
  ·rw[if_neg (by omega),if_pos e,if_pos e']; omega
  ·omega
theorem Zv.row1 {n off len sz:Nat} {els:List (List C)} (c:Zv K P f args h (.w (.c (.slice n off len sz))) h1) (hn:h.next≤n) (ho:h1.get n=some (.row sz els false)) (he:els.all (fun l=>l.all C.flat)=true) (hlt:n<h1.next) (hk:∀ m,m<h.next→h1.get m=h.get m) :
  Zv K P f args h (.w (.c (.slice h.next off len sz))) (h.new (.row sz els false)):=by
 refine Zv.tidy c.1 fun tidy=>?_
 have hτ:∀ m,m<h.next→(if m<h.next then m else if m=h.next then n else h1.next+m)=m:=fun m hm=>if_pos hm
 have hτ2:(if h.next<h.next then h.next else if h.next=h.next then n else h1.next+h.next)=n:=by rw[if_neg (by omega),if_pos rfl]
 refine c.Za3 (τ:=fun m=>if m<h.next then m else if m=h.next then n else h1.next+m) hτ (fun m hm=>?_) (by rw[H.Zc]; omega) ?_ (fun m o hm=>?_) (fun m m' o o' hm hm' hne=>?_)
 ·rw[H.Zc] at hm
  show h1.next≤if m<h.next then m else if m=h.next then n else h1.next+m
  rw[if_neg (by omega),if_neg (by omega)]
  omega
 ·show V.w (W.c (C.slice (if h.next<h.next then h.next else if h.next=h.next then n else h1.next+h.next) off len sz))=_
  rw[hτ2]
 ·rw[H.Zd] at hm
  split at hm
  ·rename_i e
   subst e
   cases hm
   refine .inr ⟨rfl,rfl,?_⟩
   show h1.get (if h.next<h.next then h.next else if h.next=h.next then n else h1.next+h.next)=_
   rw[hτ2,ho]
   show some (O.row sz els false)=some (O.row sz (els.map (List.map (C.ren _))) false)
   rw[Uw (fun l hl=>Uw (fun a ha=>C.Jo ha _) hl) he]
  ·exact .inl ⟨hm,by rw[hk m (tidy m o hm)]; exact hm⟩
 ·have key:∀ m o,(h.new (.row sz els false)).get m=some o→m<h.next∨m=h.next:=fun m o hm=>by
   rw[H.Zd] at hm
   split at hm
   ·rename_i e; exact .inr e
   ·exact .inl (tidy m o hm)
  show (if m<h.next then m else if m=h.next then n else h1.next+m)≠(if m'<h.next then m' else if m'=h.next then n else h1.next+m')
  rcases key m o hm with e|e<;>rcases key m' o' hm' with e'|e'
  ·rw[if_pos e,if_pos e']; exact hne
  ·rw[if_pos e,if_neg (by omega),if_pos e']; omega
  ·rw[if_neg (by omega),if_pos e,if_pos e']; omega
  ·omega
theorem Sr (sz:Nat) (L:List (List C)):Me sz L 0 sz L.length=some L:=by
 unfold Me
 cases e:Nat.beq L.length 0 with
 | true =>
  have:=Nat.eq_of_beq_eq_true e
  have:L=[]:=List.length_eq_zero_iff.1 this
  subst this
  rfl
 | false =>
  simp only[cond_false,Nat.beq_refl,cond_true,Nat.zero_mod,Nat.zero_div,Nat.zero_add,Bool.true_and,List.drop_zero]
  rw[Nat.ble_eq_true_of_le (Nat.le_refl _),List.take_of_length_le (Nat.le_refl _)]
  rfl
theorem Sw {n sz:Nat} {L:List (List C)} {ro:Bool} (ho:h.get n=some (.row sz L ro)):U2 h sz (.slice n 0 L.length sz)=some L:=by
 unfold U2
 simp only[Nat.beq_refl,cond_true,ho,Qo,Sr]
 cases e:Nat.beq L.length 0 with
 | true =>
  have:=Nat.eq_of_beq_eq_true e
  have:L=[]:=List.length_eq_zero_iff.1 this
  subst this
  rfl
 | false=>rfl
theorem Ee {sz i j:Nat} {L:List (List C)} {x:List C} (hj:j<sz) (hx:L[i]? = some x):read1 sz L (i * sz+j)=x[j]?:=by
 unfold read1
 rw[show (i * sz+j) / sz=i by rw[Nat.mul_comm,Nat.mul_add_div (by omega),Nat.div_eq_of_lt hj,Nat.add_zero],show (i * sz+j) % sz=j by rw[Nat.mul_comm,Nat.mul_add_mod,Nat.mod_eq_of_lt hj],hx]
theorem Fz {sz i:Nat} {L:List (List C)} {e l:List C} (hl:l.length=sz) (h2:2≤sz) (hx:L[i]? = some e) (he:e.length=sz):Z9 sz L (i * sz) l=some (L.set i l):=by
 match l,hl with
 | a :: b :: r,hl =>
  simp only[Z9]
  rw[show i * sz / sz=i from Nat.mul_div_cancel _ (by omega),Nat.mul_mod_left,hx]
  simp only[Nat.zero_add,List.take_zero,List.nil_append]
  rw[hl,Nat.ble_eq_true_of_le (by omega),List.drop_of_length_le (by omega),List.append_nil]
  rfl
 | [a],hl=>simp at hl; omega
 | [],hl=>simp at hl; omega
theorem Zke {i:Nat} {L:List (List C)} {c d:C} (hx:L[i]? = some [d]):Z9 1 L i [c]=some (L.set i [c]):=by
 simp only[Z9,Nat.div_one,hx,Nat.mod_one]
 rfl
theorem Zfs {sz i:Nat} {L:List (List C)} {e:List C} (h1:1≤sz) (hx:L[i]? = some e) (he:e.length=sz):Zm sz L (i * sz) sz=some e:=by
 unfold Zm
 have e0:Nat.beq sz 0=false:=by
  cases hb:Nat.beq sz 0 with
  | false=>rfl
  | true=>have:=Nat.eq_of_beq_eq_true hb; omega
 rw[show i * sz / sz=i from Nat.mul_div_cancel _ (by omega),Nat.mul_mod_left,hx,e0]
 simp only[cond_false,Nat.zero_add,List.drop_zero]
 rw[Nat.ble_eq_true_of_le (by omega),List.take_of_length_le (by omega)]
 rfl
theorem Xf {te:TI} {n n' sz:Nat} {L M:List (List C)} {ro:Bool} (hsz:te.size=sz) (ho:h.get n=some (.row sz L false)) (ho':h.get n'=some (.row sz M ro)) (hM:M≠[]) (hb:(L.length+M.length) * te.bytes≤1099511627776) (hb':L.length+M.length≤1099511627776) :
  Uy h (some te) (.slice n 0 L.length sz) (.slice n' 0 M.length sz)=some (.w (.c (.slice h.next 0 (L.length+M.length) sz)),(h.del n).new (.row sz (L++M) false)):=by
 unfold Uy
 simp only[hsz,Sw ho,Sw ho',Qh,cond_true]
 cases M with
 | nil=>exact absurd rfl hM
 | cons a M =>
  simp only[Ny]
  rw[Nat.ble_eq_true_of_le hb,Nat.ble_eq_true_of_le hb']
  simp only[Bool.true_and,cond_true,Ql,ho,J8,hsz]
  rfl
theorem append_nil {te:TI} {n' sz:Nat} {M:List (List C)} {ro:Bool} (hsz:te.size=sz) (ho':h.get n'=some (.row sz M ro)) (hM:M≠[]) (hb:M.length * te.bytes≤1099511627776) (hb':M.length≤1099511627776) :
  Uy h (some te) .snil (.slice n' 0 M.length sz)=some (.w (.c (.slice h.next 0 M.length sz)),h.new (.row sz M false)):=by
 unfold Uy
 simp only[hsz,Sw ho',Qh,cond_true]
 cases M with
 | nil=>exact absurd rfl hM
 | cons a M =>
  simp only[Ny,U2,List.length_nil,Nat.zero_add]
  rw[Nat.ble_eq_true_of_le hb,Nat.ble_eq_true_of_le hb']
  simp only[Bool.true_and,cond_true,Ql,J8,hsz,List.nil_append]
end
end Go.Ev
/- Regions that draw their order, on slots that are not all known. -/
namespace Go.Ev
section
variable {K:Cfg} {n:Nat} {ts:Zw} {h:H}
theorem Z0s (x:Operand):Ul K ts h (.move x)=Mq h (Gf K ts x):=rfl
theorem Zs4 (x:Operand):Ul K ts h (.assign x)=Mq h (Gf K ts x):=rfl
theorem Zwo (op:BinOp) (t:TypeId) (x y:Operand) (u:TypeId):Ul K ts h (.binOp op t x y u)=Ou h (binop K op t (evalW K ts x) (evalW K ts y)):=rfl
theorem Z0u (op:UnOp) (t:TypeId) (x:Operand):Ul K ts h (.unOp op t x)=Ou h (Zm3 op (Zx K ts x)):=rfl
theorem Zoo (s t:TypeId) (x:Operand):Ul K ts h (.convert s t x)=G5 h (K.types.get s) (K.types.get t) (Zx K ts x):=rfl
theorem Z0r (t:TypeId) (x:Operand):Ul K ts h (.load t x)=Zb5 K h t (Zx K ts x):=rfl
theorem Zwt (t:TypeId) (x y:Operand):Ul K ts h (.store t x y)=Xu K h t (Zx K ts x) (evalW K ts y):=rfl
theorem Zjv (t:TypeId) (x i:Operand):Ul K ts h (.indexAddr t x i)=Ou h (Gl K (K.types.get t) (Zx K ts x) (Ux (Zx K ts i))):=rfl
theorem Zwr (t:TypeId) (x i:Operand):Ul K ts h (.index t x i)=En h (Ed K (K.types.get t) (evalW K ts x) (Ux (Zx K ts i))):=rfl
theorem Zon (b:Builtin) (args:Array Operand) (tys:Array TypeId):Ul K ts h (.call ⟨.builtin b,args,tys⟩)=Zt K h b tys.toList (Om K ts args.toList):=rfl
theorem Z0t (c a b:Operand):Ul K ts h (.pick c a b)=Mq h (Vz K ts a b (Zx K ts c)):=rfl
theorem Zwn (t:TypeId):Ul K ts h (.alloc t)=Sm h (K.types.get t):=rfl
theorem Z3i (t:TypeId) (x:Operand):Ul K ts h (.box t x)=Yr h (evalW K ts x):=rfl
theorem Zwp (t:TypeId) (ps:Array (Nat × Operand)):Ul K ts h (.build t ps)=En h (Yd K t (Jz K ts ps.toList)):=rfl
theorem Zg0 (t:TypeId) (len:Nat) (ps:Array (Nat × Operand)):Ul K ts h (.buildSlice t len ps)=Y4 h len (Y1 K t) (Jz K ts ps.toList):=rfl
theorem Zmg (x:Operand):Ul K ts h (.nilCheck x)=Ou h (Bo (Zx K ts x)):=rfl
theorem Zjw (t:TypeId) (l c:Operand):Ul K ts h (.makeSlice t l c)=Ud h (Y1 K t) (Ux (Zx K ts l)) (Ux (Zx K ts c)):=rfl
theorem Zju (t:TypeId) (x:Operand) (f:Nat):Ul K ts h (.fieldAddr t x f)=Ou h (Gj (Zx K ts x) (Zk K t f)):=rfl
theorem Zwq (t:TypeId) (x:Operand) (f:Nat):Ul K ts h (.field t x f)=En h (M9 (evalW K ts x) (Zk K t f)):=rfl
theorem Zop (x:Operand) (i:Nat):Ul K ts h (.extract x i)=En h (Dv i (Gf K ts x)):=rfl
theorem Zs5 (t:TypeId) (x k:Operand) (ok:Bool):Ul K ts h (.lookup t x k ok)=Rl K h (Bc K t) (Zx K ts x) (evalW K ts k) ok:=rfl
theorem Zjx (t:TypeId) (m k v:Operand):Ul K ts h (.mapUpdate t m k v)=Dw K h (Bc K t) (Zx K ts m) (evalW K ts k) (evalW K ts v):=rfl
end
theorem Zel:∀ l:List UInt8,N9 l l=true
 | []=>rfl
 | a :: l=>by simp [N9,Zel l]
theorem Zek:∀ l:List (Option (Nat × Nat)),eqV.eqP l l=true
 | []=>rfl
 | some (a,b) :: l=>by simp [eqV.eqP,Zek l]
 | none :: l=>by simp [eqV.eqP,Zek l]
theorem Zbu (c:C):eqV.eqCc c c=true:=by
 cases c<;>simp [eqV.eqCc,Zel,Zek]
theorem Zej:∀ l:List C,eqV.eqL l l=true
 | []=>rfl
 | a :: l=>by simp [eqV.eqL,Zbu,Zej l]
theorem Zbw:∀ l:List W,eqV.eqT2 l l=true
 | []=>rfl
 | .c a :: l=>by simp [eqV.eqT2,Zbu,Zbw l]
 | .g a :: l=>by simp [eqV.eqT2,Zej,Zbw l]
theorem Zvo (v:V):eqV v v=true:=by
 cases v with
 | w x=>cases x with
  | c a=>exact Zbu a
  | g l=>exact Zej l
 | tup l=>exact Zbw l
theorem Zn9 (v:V) (h:H):gives v (some (v,h))=true:=Zvo v
theorem Ztd {n:Nat} {ts:Zw} (d:Tmp) (v:V) (hd:Nat.blt d n=true):Mr n ts (some d) v=some (ts.set d v):=by
 unfold Mr
 simp only[hd,cond_true]
theorem Ztc {n:Nat} {ts:Zw} (v:V):Mr n ts none v=some ts:=rfl
theorem Lv {a b:Nat} (h:a≤b):Nat.ble a b=true:=Nat.ble_eq_true_of_le h
section
variable {K:Cfg} {P:Program} {n:Nat} {rd:Option Nat} {ds:List Nat} {ts:Zw} {h:H} {Q:X→List Nat→Zw→H→Prop} {id:Nat}
theorem Goes.drawn2 (F:Fits K P) (Hh:Hearts K P) {E:Task→Option Out} (S:Sound K P E) {ops:Array Oper} {ts':Zw} {h':H} (st:(R7 0 ops.toList&&Sy ops.toList 0 ops.toList&&Le ops.toList 0 none [] ops.toList)=true) (g:Zln K ops.toList (Q4 K E ops.toList n 0 ops.toList ⟨ts,h,h,[],[]⟩)=some (ts',h')) (q:Q .normal ds ts' h'):Goes K P n rd (.region id ops true) ds ts h Q :=
 Goes.drawn F Hh S (by
  unfold R8
  rw[st]
  show then2 (Zln K ops.toList _) _
  rw[g]
  exact q)
end
def Zj4:Option Out→Option V
 | some (.val v _)=>some v
 | _=>none
theorem Zh4 {o:Option Out} {v:V} (h:Zj4 o=some v):∃ h',o=some (.val v h'):=by
 unfold Zj4 at h
 split at h
 ·cases h; exact⟨_,rfl⟩
 ·cases h
section
variable {K:Cfg} {P:Program} {Y:Kn} {f:FuncId} {args:List W} {v:V}
theorem Zv.pos {h h':H} {G:Nat} (hc:O6 P f) (hg:K.globs.get G=some 0) (c:0<h.next→Zv K P f args h v h'):Zv K P f args h v h':=by
 refine⟨hc,fun ρ w vals r m hr hd ha=>?_⟩
 have hp:0<h.next:=by
  obtain⟨r,e⟩:=hr.glob G 0 hg
  rcases Nat.lt_or_ge 0 h.next with h1|h1
  ·exact h1
  ·rw[hd 0 h1] at e; cases e
 exact (c hp).2 ρ w vals r m hr hd ha
theorem Zv.closed (F:Fits K P) (Hh:Hearts K P) (hY:Zdz K P Y) {G:Nat} (hg:K.globs=Tree.set .nil G 0) {n:Nat} (e:Zj4 (evX K Y n (.call f args ⟨.nil,1⟩))=some v) (ha:args.all W.flat=true) (hv:v.flat=true) (h:H):Zv K P f args h v h:=by
 obtain⟨h1,e1⟩:=Zh4 e
 have c0:Zv K P f args ⟨.nil,1⟩ v h1:=(Lj F Hh hY n).call f args _ _ _ e1
 refine Zv.pos c0.1 (Zlx hg) fun hpos=>Zv.tidy c0.1 fun tidy=>?_
 have none0:∀ n o,¬ (⟨.nil,1⟩:H).get n=some o:=fun n o hn=>by cases hn
 have L:Lies K (fun n=>if n<1 then n else h.next+(n - 1)) ⟨.nil,1⟩ h:=by
  refine⟨fun n hn=>if_neg (by have:1≤n:=hn; omega),fun n hn=>?_,fun n o ho=>(none0 n o ho).elim,fun n n' o o' ho=>(none0 n o ho).elim,fun g n hgn=>?_⟩
  ·show (if n<1 then n else _)<h.next
   have:n<1:=hn
   rw[if_pos this]
   omega
  ·rw[(Vp hg hgn).2]; rfl
 have c1:=c0.frame L (h':=⟨h.m,h.next+(h1.next - 1)⟩) ⟨rfl,fun m o ho=>.inl ⟨ho,fun n o' ho'=>(none0 n o' ho').elim⟩⟩
 rw[Uw (fun a ha=>W.Jo ha _) ha,V.Jo hv] at c1
 exact c1.quiet hv fun m _=>rfl
theorem Zv.closed1 (F:Fits K P) (Hh:Hearts K P) (hY:Zdz K P Y) {G:Nat} (hg:K.globs=Tree.set .nil G 0) {n sz len:Nat} {els:List (List C)} {us:List W} (e:Zj4 (evX K Y n (.call f (us++[.c (.slice 1 0 len sz)]) ⟨.node none (.node (some (.row sz els true)) .nil .nil) .nil,2⟩))=some v) (ha:us.all W.flat=true) (he:els.all (fun l=>l.all C.flat)=true) (hv:v.flat=true) (h:H) (m:Nat) (hm:h.get m=some (.row sz els false)):Zv K P f (us++[.c (.slice m 0 len sz)]) h v h:=by
 obtain⟨h1,e1⟩:=Zh4 e
 have c0:=(Lj F Hh hY n).call f _ _ _ _ e1
 refine Zv.pos c0.1 (Zlx hg) fun hpos=>Zv.tidy c0.1 fun tidy=>?_
 have only:∀ n o,(⟨.node none (.node (some (.row sz els true)) .nil .nil) .nil,2⟩:H).get n=some o→n=1∧o=.row sz els true:=fun n o hn=>by
  have hn':(Tree.node none (.node (some (O.row sz els true)) .nil .nil) .nil).get n=some o:=hn
  rw[Tree.O8] at hn'
  split at hn'
  ·cases hn'
  ·split at hn'
   ·rw[Tree.O8] at hn'
    split at hn'
    ·cases hn'; exact⟨by omega,rfl⟩
    ·split at hn'<;>(rw[Tree.Bt] at hn'; cases hn')
   ·rw[Tree.Bt] at hn'; cases hn'
 have fl:∀ σ:Nat→Nat,(O.row sz els false).ren σ=.row sz els false:=fun σ=>by
  show O.row sz (els.map (List.map (C.ren σ))) false=_
  rw[Uw (fun l hl=>Uw (fun a ha=>C.Jo ha _) hl) he]
 have L:Lies K (fun n=>if n<1 then n else if n<2 then m else h.next+(n - 2)) ⟨.node none (.node (some (.row sz els true)) .nil .nil) .nil,2⟩ h:=by
  refine⟨fun n hn=>?_,fun n hn=>?_,fun n o ho=>?_,fun n n' o o' ho ho' hne=>?_,fun g n hgn=>?_⟩
  ·have:2≤n:=hn
   show (if n<1 then n else if n<2 then m else h.next+(n - 2))=h.next+(n - 2)
   rw[if_neg (by omega),if_neg (by omega)]
  ·have:n<2:=hn
   have:=tidy m _ hm
   show (if n<1 then n else if n<2 then m else _)<h.next
   by_cases h1:n<1
   ·rw[if_pos h1]; omega
   ·rw[if_neg h1,if_pos (by omega)]; exact this
  ·obtain⟨rfl,rfl⟩:=only n o ho
   exact⟨rfl,_,hm,.inr ⟨sz,els,rfl,(fl _).symm⟩⟩
  ·exact absurd ((only n o ho).1.trans (only n' o' ho').1.symm) hne
  ·rw[(Vp hg hgn).2]; rfl
 have c1:=Zv.frame c0 L (h':=⟨h.m,h.next+(h1.next - 2)⟩) ⟨rfl,fun k o ho=>.inl ⟨ho,fun n o' ho' _=>by rw[(only n o' ho').2]; rfl⟩⟩
 rw[List.map_append,Uw (fun a ha=>W.Jo ha _) ha,V.Jo hv] at c1
 exact c1.quiet hv fun m _=>rfl
end
def U1:List C→Option (List Nat)
 | []=>some []
 | .int .u8 (.ofNat n) :: l=>bif Nat.blt n 256 then (match U1 l with
  | some r=>some (n :: r)
  | none=>none) else none
 | _=>none
theorem Zfc:∀ {l:List C} {r:List Nat},U1 l=some r→r.length=l.length∧∀ (j b:Nat),r[j]? = some b→b<256∧l[j]? = some (.int .u8 (b:Int))
 | [],r,h=>by
  cases h
  exact⟨rfl,fun j b h=>by simp at h⟩
 | .int .u8 (.ofNat n) :: l,r,h=>by
  simp only[U1] at h
  cases hb:Nat.blt n 256 with
  | false=>rw[hb] at h; cases h
  | true =>
   rw[hb] at h
   simp only[cond_true] at h
   cases hr:U1 l with
   | none=>rw[hr] at h; cases h
   | some r' =>
    rw[hr] at h
    cases h
    obtain⟨h1,h2⟩:=Zfc hr
    refine⟨by simp [h1],fun j b hj=>?_⟩
    cases j with
    | zero =>
     simp at hj
     subst hj
     exact⟨by simpa [Nat.blt_eq] using hb,rfl⟩
    | succ j=>exact h2 j b (by simpa using hj)
 | .int .u8 (.negSucc _) :: _,_,h=>by simp [U1] at h
 | .int .i8 _ :: _,_,h=>by simp [U1] at h
 | .int .i16 _ :: _,_,h=>by simp [U1] at h
 | .int .i32 _ :: _,_,h=>by simp [U1] at h
 | .int .i64 _ :: _,_,h=>by simp [U1] at h
 | .int .u16 _ :: _,_,h=>by simp [U1] at h
 | .int .u32 _ :: _,_,h=>by simp [U1] at h
 | .int .u64 _ :: _,_,h=>by simp [U1] at h
 | .bool _ :: _,_,h=>by simp [U1] at h
 | .str _ :: _,_,h=>by simp [U1] at h
 | .ptr _ _ :: _,_,h=>by simp [U1] at h
 | .pnil :: _,_,h=>by simp [U1] at h
 | .slice _ _ _ _ :: _,_,h=>by simp [U1] at h
 | .snil :: _,_,h=>by simp [U1] at h
 | .map _ :: _,_,h=>by simp [U1] at h
 | .mnil :: _,_,h=>by simp [U1] at h
 | .fn _ _ _ :: _,_,h=>by simp [U1] at h
 | .yield _ :: _,_,h=>by simp [U1] at h
 | .nilFn :: _,_,h=>by simp [U1] at h
theorem Zg2 {sz off n:Nat} {els:List (List C)} {l:List C} (h:Zm sz els off n=some l) (hn:off % sz+n≤sz):l.length=n∧∀ j,j<n→read1 sz els (off+j)=l[j]?:=by
 unfold Zm at h
 cases e:Nat.beq n 0 with
 | true =>
  have:=Nat.eq_of_beq_eq_true e
  subst this
  rw[e] at h
  cases h
  exact⟨rfl,fun j hj=>by omega⟩
 | false =>
  rw[e] at h
  simp only[cond_false] at h
  cases hx:els[off / sz]? with
  | none=>rw[hx] at h; cases h
  | some x =>
   rw[hx] at h
   simp only at h
   cases hb:Nat.ble (off % sz+n) x.length with
   | false=>rw[hb] at h; cases h
   | true =>
    rw[hb] at h
    cases h
    have hle:off % sz+n≤x.length:=Nat.le_of_ble_eq_true hb
    refine⟨by simp; omega,fun j hj=>?_⟩
    have hpos:0<sz:=by omega
    have e1:(off+j) / sz=off / sz:=by
     have h1:=Nat.div_add_mod off sz
     have h2:off+j=sz * (off / sz)+(off % sz+j):=by omega
     rw[h2,Nat.mul_add_div hpos,Nat.div_eq_of_lt (show off % sz+j<sz by omega),Nat.add_zero]
    have e2:(off+j) % sz=off % sz+j:=by
     have h1:=Nat.div_add_mod off sz
     have h2:off+j=sz * (off / sz)+(off % sz+j):=by omega
     rw[h2,Nat.mul_add_mod,Nat.mod_eq_of_lt (show off % sz+j<sz by omega)]
    unfold read1
    rw[e1,e2,hx]
    rw[List.getElem?_take_of_lt hj,List.getElem?_drop]
end Go.Ev
/- A simp set for walks on the evaluator's level; conditions that arithmetic settles. -/
namespace Go.Ev
open Go.RowKit
section
variable {K:Cfg} {P:Program} {n:Nat} {rd:Option Nat} {ds:List Nat} {ts:Zw} {h:H} {Q R:X→List Nat→Zw→H→Prop} {a b c:Code} {id:Nat}
theorem Zv.Z49 (F:Fits K P) (Hh:Hearts K P) {f:FuncId} {fn:Func} {body:Code} {args:List W} {R:V→H→Prop} (hc:K.clones.contains f=false) (hs:K.sorted.lookup f=none) (hf:K.funcs.get f=some fn) (hb:fn.body=some body) (hn:Nat.ble args.length fn.ntmps=true)
  (g:Goes K P fn.ntmps none body [] (Jj 0 args .nil) h fun x ds ts h1=>∃ v h',leave K fn (some (.at x ds ts h1))=some (.val v h')∧R v h'):∃ v h',Zv K P f args h v h'∧R v h':=by
 obtain⟨x,ds',ts',h1,g1,v,h',g2,r⟩:=g
 exact⟨v,h',Zv.body F Hh hc hs hf hb hn g1 g2,r⟩
end
theorem Lc {K:Cfg} {E:Task→Option Out} {ts:Zw} {h:H} (f:FuncId) (a b:Array Operand):Jv K E ts h (.makeFunc (.func f) a b)=Ou h (Dj f (Om K ts a.toList) (Om K ts b.toList)):=rfl
theorem Ziu {K:Cfg} {E:Task→Option Out} {ts:Zw} {h:H} (t:TypeId):Jv K E ts h (.makeMap t none)=Es h:=rfl
theorem Zr3 {K:Cfg} {E:Task→Option Out} {ts:Zw} {h:H} (t:TypeId) (x:Operand) (lo hi:Option Operand):Jv K E ts h (.slice t x lo hi none)=Ou h (Na K h (K.types.get t) (Zx K ts x) (Mo K ts lo) (Mo K ts hi)):=rfl
theorem Zns {K:Cfg} {E:Task→Option Out} {ts:Zw} {h:H} (t:TypeId) (x:Operand) (lo hi:Option Operand) (m:Operand):Jv K E ts h (.slice t x lo hi (some m))=Ou h (Zfi K h (K.types.get t) (Zx K ts x) (Mo K ts lo) (Mo K ts hi) (Mo K ts (some m))):=rfl
theorem Y9 {K:Cfg} {E:Task→Option Out} {all rest:List Oper} {n:Nat} {ts ts':Zw} {h h':H} {o:Oper} {r:Option (Zw × H)} (e:Q5 K E all n ts h o=some (ts',h')) (g:F7 K E all n rest ts' h'=r):F7 K E all n (o :: rest) ts h=r:=by
 rw[Qe,e]
 exact g
theorem Y8 {K:Cfg} {E:Task→Option Out} {all:List Oper} {n:Nat} {ts:Zw} {h:H}:F7 K E all n [] ts h=some (ts,h):=rfl
theorem Zd8 {a b:Nat} (h:a<b):Nat.blt a b=true:=U6 h
theorem Wn {a b:Nat} (h:a≤b):Nat.ble a b=true:=Nat.ble_eq_true_of_le h
theorem Zu1 {a b:Nat} (h:a=b):Nat.beq a b=true:=by subst h; exact Nat.beq_refl a
theorem Zqo {a b:Nat} (h:a≠b):Nat.beq a b=false:=by
 cases hx:Nat.beq a b with
 | false=>rfl
 | true=>exact absurd (Nat.eq_of_beq_eq_true hx) h
theorem Z4t {a b:Nat} (h:b≤a):Nat.blt a b=false:=by
 cases hx:Nat.blt a b with
 | false=>rfl
 | true=>rw[Nat.blt_eq] at hx; omega
theorem Z4r {a b:Nat} (h:b<a):Nat.ble a b=false:=by
 cases hx:Nat.ble a b with
 | false=>rfl
 | true=>have:=Nat.le_of_ble_eq_true hx; omega
theorem Zrp {z:Int} (h : -9223372036854775808≤z∧z<9223372036854775808):Yq .i64 z=.int .i64 z:=wrap64 h.1 h.2
theorem Zf2 {z:Int} (h:0≤z∧z<4294967296):Yq .u32 z=.int .u32 z:=by
 unfold Yq IntKind.wrap
 congr 1
 show (z % 4294967296)=z
 omega
theorem Zf1 {z:Int} (h:0≤z∧z<65536):Yq .u16 z=.int .u16 z:=by
 unfold Yq IntKind.wrap
 congr 1
 show (z % 65536)=z
 omega
theorem Zdx {z:Int} (h:0≤z∧z<256):Yq .u8 z=.int .u8 z:=by
 unfold Yq IntKind.wrap
 congr 1
 show (z % 256)=z
 omega
theorem Zxq {z:Int} (h:0≤z∧z<18446744073709551616):Yq .u64 z=.int .u64 z:=by
 unfold Yq IntKind.wrap
 congr 1
 show (z % 18446744073709551616)=z
 omega
theorem Z6j {p:Prop} [Decidable p] (h:p):decide p=true:=decide_eq_true h
theorem Z6i {p:Prop} [Decidable p] (h:¬p):decide p=false:=decide_eq_false h
theorem Tf {a b:Int} (h:a=b):(a == b)=true:=by simpa using h
theorem Bl {a b:Int} (h:a≠b):(a == b)=false:=by simpa using h
theorem Zl2 {a b:Int} (h:a≠b):(a != b)=true:=by simpa using h
theorem Zv3 {a b:Int} (h:a=b):(a != b)=false:=by simpa using h
theorem Zqq {f:Nat→Nat→Nat} {a b:Nat} (ha:a<256) (hb:b<256) (hf:f a b<256):Bd .u8 f (a:Int) (b:Int)=.int .u8 (f a b:Nat):=by
 unfold Bd
 have e1:((a:Int) % 2 ^ IntKind.u8.bits).toNat=a:=by
  show ((a:Int) % 256).toNat=a
  omega
 have e2:((b:Int) % 2 ^ IntKind.u8.bits).toNat=b:=by
  show ((b:Int) % 256).toNat=b
  omega
 rw[e1,e2]
 exact Zdx (by omega)
theorem Xw {k:IntKind} {a b:Nat} (hb:0<b):Ti k (a:Int) (b:Int)=some (.int k ((a % b:Nat):Int)):=by
 unfold Ti
 have:((b:Int) == 0)=false:=by simp; omega
 rw[this]
 rfl
theorem Nc {a b:Nat} (hb:0<b) (ha:a<9223372036854775808):F9 .i64 (a:Int) (b:Int)=some (.int .i64 ((a / b:Nat):Int)):=by
 unfold F9
 have:((b:Int) == 0)=false:=by simp; omega
 rw[this,cond_false]
 have e:(a:Int).tdiv b=((a / b:Nat):Int):=rfl
 have h1:a / b≤a:=Nat.div_le_self _ _
 rw[e,Zrp]
 generalize a / b=q at h1
 omega
theorem Z01 {k:IntKind} {a n:Nat} (h:0<(OfNat.ofNat n:Nat)):Ti k (a:Int) (no_index (OfNat.ofNat n:Int))=some (.int k ((a % (OfNat.ofNat n:Nat):Nat):Int)):=Xw (b:=n) h
theorem Z0z {a n:Nat} (h:0<(OfNat.ofNat n:Nat)∧a<9223372036854775808):F9 .i64 (a:Int) (no_index (OfNat.ofNat n:Int))=some (.int .i64 ((a / (OfNat.ofNat n:Nat):Nat):Int)):=Nc (b:=n) h.1 h.2
theorem Zsx {k:IntKind} {z:Int} (h:0≤z):Ux (some (.int k z))=some z.toNat:=by
 obtain⟨m,rfl⟩:=Int.eq_ofNat_of_zero_le h
 rfl
theorem Zy4 {E:Task→Option Out} {f g:FuncId} {args us:List W} {h k:H} {v:V} {h':H} (e:g≠f):E1 E f args h v h' (.call g us k)=E (.call g us k):=by
 simp [E1,e]
theorem Zw0 {n d:Nat} {ts:Zw} {h:H} {v:V} (hd:d<n):Tj n ts (some d) (some (v,h))=some (ts.set d v,h):=Zl d v (Zd8 hd)
theorem Z0y {n d:Nat} {ts:Zw} {v:V} (hd:d<n):Mr n ts (some d) v=some (ts.set d v):=Ztd d v (Zd8 hd)
theorem Zru:Qs (.pointer none)=some (.w (.c .pnil)):=rfl
theorem Zrv:Qs (.slice none 0 0)=some (.w (.c .snil)):=rfl
theorem Zrt:Qs (.map none)=some (.w (.c .mnil)):=rfl
theorem Zno:Qs .nilFunc=some (.w (.c .nilFn)):=rfl
theorem Zui (s:ByteArray):Qs (.string s)=some (.w (.c (.str s.data.toList))):=rfl
theorem Yg (h:H) (n:Nat) (o:O):(h.put n o).get n=some o:=by rw[H.get_put,if_pos rfl]
theorem Zo {h:H} {n m:Nat} {o:O} (e:m≠n):(h.put n o).get m=h.get m:=by rw[H.get_put,if_neg e]
theorem Eb (h:H) (o:O):(h.new o).get h.next=some o:=by rw[H.Zd,if_pos rfl]
theorem Yn {h:H} {m:Nat} {o:O} (e:m≠h.next):(h.new o).get m=h.get m:=by rw[H.Zd,if_neg e]
theorem Gp {h:H} {m:Nat} {o:O} (e:m≤h.next∧h.next≤m):(h.new o).get m=some o:=by rw[show m=h.next by omega,Eb]
theorem Qg {h:H} {n m:Nat} (e:m≠n):(h.del n).get m=h.get m:=by rw[H.Bb,if_neg e]
theorem Zn8 {h:H} {n m:Nat} {o:O} (e:m≤n∧n≤m):(h.put n o).get m=some o:=by rw[show m=n by omega,Yg]
attribute [go_sem] Qe Zhl Zls Zlr Bg Zbj Tree.Sa List.getElem?_cons_succ List.getElem?_cons_zero Jz Zun Znp Zry Zup Zk5 Zum Zr5 Zgr Zuk Zuo Zzc Zrz Zd1 Ziv Zgs Zgq Zr0 Zk6 Znq Zgt Zk4 Zzj Znt Znu Zr7 Zzl Zzk Zu2 Zmi Zmh Zmk Zmj Zul Zr1 evalW Zx Om Z0 Zlu Zn5 Zuh Zrs asW asC Zb binop Zqp Zzm Zm3 Ou En Mq Z3k Zhx Zb5 Go.Ev.load Xu Go.Ev.store putRow Gl Zl3 Zsz Zsy G5 Sm Zfd Zw0 Zos L8 Fg List.map_nil List.nil_append List.append_nil cond_true cond_false H.Zf H.Zc if_true Bo Vz Dv Gj Zi0 Zi1 List.length_cons List.length_nil Ye Z7 nbeq10 Z4q Z4p Z4o Z4n Bool.not_true Bool.not_false
attribute [go_sem] Yg Zo Eb Yn Gp Zn8 Qg H.Yo Zrp Zf2 Zf1 Zdx Zxq Zsx Zd8 Wn Zu1 Zqo Z4t Z4r Nat.beq_refl Um
attribute [go_sem] Ot Zjo Y7 finish Y3 Ui
attribute [go_sem] Int.toNat_natCast Zru Zrv Zrt Zno Zui Option.toList_some Option.toList_none Z2l Zvm eqC isB Zwl Zy4 Nat.zero_add Nat.mul_one cW gW List.getElem?_nil
attribute [go_sem] Lc Ziu Zr3 Zns Dj ptrs Es
attribute [go_sem] Z01 Z0z Z6j Z6i Tf Bl Zl2 Zv3
attribute [go_sem] Bool.and_true Bool.true_and Bool.and_false Bool.false_and Bool.and_self Bool.or_true Bool.true_or Bool.or_false Bool.false_or List.getElem?_cons_zero
attribute [go_sem] Z4 U7 partOf M9 Z2m List.set_cons_zero List.set_cons_succ List.take_succ_cons List.drop_succ_cons List.take_zero List.drop_zero List.take_nil List.drop_nil List.cons_append List.singleton_append Zz
attribute [go_sem] piece part0 part1 part2 Z3l Z3m part3 part4 part5 part6 Ut Z3j
section
variable {K:Cfg} {P:Program} {n:Nat} {rd:Option Nat} {ds:List Nat} {ts:Zw} {h:H} {Q:X→List Nat→Zw→H→Prop} {q a b:Code} {id:Nat}
theorem Goes.Zn {o:Operand} {v:Bool} (hc:Zx K ts o=some (.bool v)) (g:Goes K P n rd (bif v then a else b) ds ts h Q):Goes K P n rd (.cond o a b) ds ts h Q:=by
 cases v with
 | true=>exact Goes.Z4z hc g
 | false=>exact Goes.Z4y hc g
end
theorem lens:(∀ (h:H) (o:O),(h.new o).next=h.next+1)∧(∀ (h:H) (n:Nat) (o:O),(h.put n o).next=h.next)∧(∀ a b:List C,(a++b).length=a.length+b.length)∧(∀ (n:Nat) (x:C),(List.replicate n x).length=n)∧(∀ (x:C) (l:List C),(x :: l).length=l.length+1)∧([]:List C).length=0∧(∀ (n:Nat) (l:List C),(l.take n).length=min n l.length)∧(∀ (l:List C) (i:Nat) (c:C),(l.set i c).length=l.length)∧(∀ (l:List Nat) (i c:Nat),(l.set i c).length=l.length) :=
 ⟨H.Zc,H.Zf,fun _ _=>List.length_append,fun _ _=>List.length_replicate,fun _ _=>List.length_cons,rfl,fun _ _=>List.length_take,fun _ _ _=>List.length_set,fun _ _ _=>List.length_set⟩
attribute [go_sem] Z0s Zs4 Zwo Z0u Zoo Z0r Zwt Zjv Zwn Z0t Z3i Zwp Zg0 Zmg Zjw Zju Zwq Zop Zs5 Zjx Zon Zwr
attribute [go_sem] Zln Q4 Zhi Z2v Z44 Znz Zn0 Zjc Zhh Zn1 N8 Z0y Ztc Bi looks Z18 Op.operands Call.operands kd Zoi Sz stable Zaz Zfr Z1i waits Zn9 Region.binds
theorem drG:(∀ (α β:Type) (f:α→Option β) (a:α) (l:List α),(a :: l).filterMap f=match f a with|none=>l.filterMap f|some b=>b :: l.filterMap f)∧(∀ (α β:Type) (f:α→Option β),List.filterMap f []=[])∧(∀ (α:Type) (l:List α),l++[]=l)∧(∀ (α:Type) (l:List α),[]++l=l)∧(∀ (α:Type) (p:α→Bool) (a:α) (l:List α),(a :: l).all p=(p a&&l.all p))∧(∀ (α:Type) (p:α→Bool),List.all [] p=true)∧(∀ (α:Type) (p:α→Bool) (a:α) (l:List α),(a :: l).any p=(p a || l.any p))∧(∀ (α:Type) (p:α→Bool),List.any [] p=false)∧(∀ (α β:Type) (f:α→β) (a:α) (l:List α),(a :: l).map f=f a :: l.map f)∧(∀ (α:Type) (a b:Array α),(a++b).toList=a.toList++b.toList)∧(∀ a b:Nat,a≤b→Nat.ble a b=true)∧(∀ a:Nat,a≤a)∧∀ a b:Nat,a≤a+b :=
 ⟨fun _ _ _ _ _=>List.filterMap_cons,fun _ _ _=>rfl,fun _ l=>List.append_nil l,fun _ _=>rfl,fun _ _ _ _=>rfl,fun _ _=>rfl,fun _ _ _ _=>rfl,fun _ _=>rfl,fun _ _ _ _ _=>rfl,fun _ _ _=>Array.toList_append,fun _ _ h=>Lv h,Nat.le_refl,fun a b=>Nat.le_add_right a b⟩
end Go.Ev
/- Ranges over functions, walked. -/
namespace Go.Ev
open Go.RowKit
section
variable {K:Cfg} {P:Program} {n:Nat} {rd:Option Nat} {ds:List Nat} {ts:Zw} {h:H} {Q:X→List Nat→Zw→H→Prop} {id:Nat}
def Z2c (Q:X→List Nat→Zw→H→Prop) (ds:List Nat) (ts:Zw) (h:H):Option Code→Prop
 | none=>Q .normal ds ts h
 | some (.exit id)=>Q (.exit id) ds ts h
 | some .ret=>Q .ret ds ts h
 | _=>False
theorem Zjy {pend:Option Code} (q:Z2c Q ds ts h pend):∃ x,pending ds ts h pend=some (.at x ds ts h)∧Q x ds ts h:=by
 cases pend with
 | none=>exact⟨.normal,rfl,q⟩
 | some c=>cases c<;>first|exact⟨_,rfl,q⟩|exact q.elim
theorem Goes.range (F:Fits K P) (Hh:Hearts K P) {g:Operand} {ps:Array Tmp} {assign body:Code} {f:FuncId} {first caps:List (Option (Nat × Nat))} (hg:Zx K ts g=some (.fn f first caps)) {v:V} {h3:H} (c:Zv K P f (Fg [.c (.yield (h.next+1))] first caps) ((h.new .defers).new (.loop ts n ps.toList assign body .ready none h.next)) v h3)
  {ts':Zw} {n':Nat} {ps':List Tmp} {us1' bd':Code} {st:LoopState} {pend:Option Code} {d:Nat} (hl:h3.get (h.next+1)=some (.loop ts' n' ps' us1' bd' st pend d)) (hst:st≠.busy)
  (q:Z2c Q (h.next :: ds) ts (h3.put (h.next+1) (.loop ts' n' ps' us1' bd' .exhausted pend d)) pend):Goes K P n none (.rangeFunc g ps assign body) ds ts h Q:=by
 obtain⟨x,e,q'⟩:=Zjy q
 have S:=Zu Za c
 have T:=Ex F Hh S (Xm F S)
 refine⟨x,_,_,_,T.code (.rangeFunc g ps assign body) n none ds ts h x _ _ _ ?_,q'⟩
 show Zdn _ ps.toList assign body n none ds ts h (Zx K ts g)=_
 rw[hg]
 show endLoop (h.next :: ds) ts (h.new .defers).next (E1 E0 f _ _ v h3 (.call f (Fg [.c (.yield (h.new .defers).next)] first caps) ((h.new .defers).new (.loop ts n ps.toList assign body .ready none h.next))))=_
 rw[show (h.new .defers).next=h.next+1 from rfl,Z8]
 show (match h3.get (h.next+1) with
  | some (.loop ts' n' ps ag bd st pend d)=>(match st with
   | .busy=>none
   | _=>pending (h.next :: ds) ts (h3.put (h.next+1) (.loop ts' n' ps ag bd .exhausted pend d)) pend)
  | _=>none)=_
 rw[hl]
 cases st with
 | busy=>exact absurd rfl hst
 | _=>exact e
theorem exE {α β:Type} {A R S:α→β→Prop} (x:∃ a b,A a b∧R a b) (q:∀ a b,R a b→S a b):∃ a b,A a b∧S a b:=by
 obtain⟨a,b,h1,h2⟩:=x
 exact⟨a,b,h1,q a b h2⟩
theorem Goes.Zoz (F:Fits K P) (Hh:Hearts K P) {g:Operand} {ps:Array Tmp} {assign body:Code} {f:FuncId} {first caps:List (Option (Nat × Nat))} (hg:Zx K ts g=some (.fn f first caps))
  (e:∃ v h3,Zv K P f (Fg [.c (.yield (h.next+1))] first caps) ((h.new .defers).new (.loop ts n ps.toList assign body .ready none h.next)) v h3 ∧
   ∃ st pend ts' n' ps' us1' bd' d,h3.get (h.next+1)=some (.loop ts' n' ps' us1' bd' st pend d)∧st≠.busy∧Z2c Q (h.next :: ds) ts (h3.put (h.next+1) (.loop ts' n' ps' us1' bd' .exhausted pend d)) pend):Goes K P n none (.rangeFunc g ps assign body) ds ts h Q:=by
 obtain⟨v,h3,c,st,pend,ts',n',ps',us1',bd',d,hl,hst,q⟩:=e
 exact Goes.range F Hh hg c hl hst q
open Classical in
noncomputable def EA (E:Task→Option Out) (f:FuncId) (args:List W) (v:H→V) (g:H→H):Task→Option Out:=fun t=>match t with
 | .call f' args' h=>if f'=f∧args'=args then some (.val (v h) (g h)) else E t
 | t=>E t
theorem U5 {E:Task→Option Out} (S:Sound K P E) {f:FuncId} {args:List W} {v:H→V} {g:H→H} (c:∀ h,Zv K P f args h (v h) (g h)):Sound K P (EA E f args v g):=by
 refine⟨fun f' us k u k' he=>?_,fun c n rd ds ts h x ds' ts' h' he=>?_,fun t o he=>?_⟩
 ·simp only[EA] at he
  split at he
  ·rename_i e
   obtain⟨rfl,rfl⟩:=e
   cases he
   exact c k
  ·exact S.call f' us k u k' he
 ·exact S.code c n rd ds ts h x ds' ts' h' he
 ·cases t with
  | code c n rd ds ts h=>exact S.shape _ o he
  | call f' us k =>
   simp only[EA] at he
   split at he
   ·cases he
    exact .inl ⟨_,_,_,_,_,rfl,rfl⟩
   ·exact S.shape _ o he
theorem Zy5 (E:Task→Option Out) (f:FuncId) (args:List W) (v:H→V) (g:H→H) (h:H):EA E f args v g (.call f args h)=some (.val (v h) (g h)):=by simp [EA]
theorem Zy6 {E:Task→Option Out} {f f':FuncId} {args us:List W} {v:H→V} {g:H→H} {h:H} (e:f'≠f):EA E f args v g (.call f' us h)=E (.call f' us h):=by
 simp [EA,e]
attribute [go_sem] Zy5 Zy6
open Classical in
noncomputable def E1c (E:Task→Option Out) (c:Code) (n:Nat) (rd:Option Nat) (ds:List Nat) (ts:Zw) (h:H) (x:X) (ds':List Nat) (ts':Zw) (h':H):Task→Option Out:=fun t=>if t=.code c n rd ds ts h then some (.at x ds' ts' h') else E t
theorem Dp {E:Task→Option Out} (S:Sound K P E) {c:Code} {x:X} {ds':List Nat} {ts':Zw} {h':H} (k:Yf K P n rd c ds ts h x ds' ts' h'):Sound K P (E1c E c n rd ds ts h x ds' ts' h'):=by
 refine⟨fun g us k' u k2 he=>?_,fun c2 n2 rd2 ds2 ts2 h2 x2 ds3 ts3 h3 he=>?_,fun t o he=>?_⟩
 ·simp only[E1c] at he
  split at he
  ·rename_i e
   cases e
  ·exact S.call g us k' u k2 he
 ·simp only[E1c] at he
  split at he
  ·rename_i e
   cases e
   cases he
   exact k
  ·exact S.code c2 n2 rd2 ds2 ts2 h2 x2 ds3 ts3 h3 he
 ·simp only[E1c] at he
  split at he
  ·rename_i e
   cases e
   cases he
   exact .inr ⟨_,_,_,_,_,_,_,_,_,_,rfl,rfl⟩
  ·exact S.shape t o he
theorem Fe (E:Task→Option Out) (c:Code) (n:Nat) (rd:Option Nat) (ds:List Nat) (ts:Zw) (h:H) (x:X) (ds':List Nat) (ts':Zw) (h':H):E1c E c n rd ds ts h x ds' ts' h' (.code c n rd ds ts h)=some (.at x ds' ts' h'):=by simp [E1c]
theorem Qr {E:Task→Option Out} {c:Code} {x:X} {ds':List Nat} {ts':Zw} {h':H} {c2:Code} {n2:Nat} {rd2:Option Nat} {ds2:List Nat} {ts2:Zw} {h2:H} (e:Task.code c2 n2 rd2 ds2 ts2 h2≠Task.code c n rd ds ts h):E1c E c n rd ds ts h x ds' ts' h' (.code c2 n2 rd2 ds2 ts2 h2)=E (.code c2 n2 rd2 ds2 ts2 h2):=by
 unfold E1c
 rw[if_neg e]
theorem Mf {E:Task→Option Out} {l:Nat} {args:List W} {lts:Zw} {ps:List Tmp} {assign body:Code} {st0:LoopState} {pend0:Option Code} {d:Nat} {ts1:Zw} (hl:h.get l=some (.loop lts n ps assign body st0 pend0 d)) (hz:U4 n ps args lts=some ts1)
  {ds1:List Nat} {ts2:Zw} {h1:H} (ha:E (.code assign n (some l) [] ts1 h)=some (.at .normal ds1 ts2 h1))
  {lts':Zw} {n':Nat} {ps':List Tmp} {us1' bd':Code} {pend:Option Code} {d':Nat} (hl1:h1.get l=some (.loop lts' n' ps' us1' bd' .ready pend d'))
  {x:X} {ds2:List Nat} {ts3:Zw} {h2:H} (hb:E (.code body n (some l) ds1 ts2 (h1.put l (.loop lts' n' ps' us1' bd' .busy pend d')))=some (.at x ds2 ts3 h2))
  {lts2:Zw} {n2:Nat} {ps2:List Tmp} {as2 bd2:Code} {p2:Option Code} {d2:Nat} (hl2:h2.get l=some (.loop lts2 n2 ps2 as2 bd2 .busy p2 d2)) :
  G9 E l (some args) h (h.get l)=some (.val (.w (.c (.bool (Zl5 x)))) (h2.put l (.loop lts2 n2 ps2 as2 bd2 (Zj7 x) (Zjn x) d2))):=by
 rw[hl]
 simp only[G9,hz,ha,Rj,hl1,hb,endRound,hl2]
end
end Go.Ev
/- Functions known by what they make of arguments and memory; calls whose own objects fall; maps with ints as keys. -/
namespace Go.Ev
open Go.RowKit
section
variable {K:Cfg} {P:Program} {f:FuncId} {args:List W} {h h1 h2:H} {v:V}
abbrev Kn1:=List W→H→Option (V × H)
def Z0v:Option (V × H)→Option Out
 | some (v,h)=>some (.val v h)
 | none=>none
theorem Zs6 (v:V) (h:H):Z0v (some (v,h))=some (.val v h):=rfl
theorem Zre {r:Option (V × H)} {o:Out} (e:Z0v r=some o):∃ v h,r=some (v,h)∧o=.val v h:=by
 match r with
 | some (v,h)=>cases e; exact⟨v,h,rfl,rfl⟩
 | none=>cases e
noncomputable def EX (E:Task→Option Out) (f:FuncId) (x:Kn1):Task→Option Out:=fun t=>match t with
 | .call g args h=>bif Nat.beq g f then Z0v (x args h) else E (.call g args h)
 | t=>E t
theorem Zud {E:Task→Option Out} (S:Sound K P E) {f:FuncId} {x:Kn1} (c:∀ args h v h',x args h=some (v,h')→Zv K P f args h v h'):Sound K P (EX E f x):=by
 refine⟨fun g us k u k' he=>?_,fun c n rd ds ts h x ds' ts' h' he=>?_,fun t o he=>?_⟩
 ·simp only[EX] at he
  cases hb:Nat.beq g f with
  | true =>
   rw[hb] at he
   obtain⟨v,h,e,e2⟩:=Zre he
   cases e2
   obtain rfl:=Nat.eq_of_beq_eq_true hb
   exact c _ _ _ _ e
  | false=>rw[hb] at he; exact S.call g us k u k' he
 ·exact S.code c n rd ds ts h x ds' ts' h' he
 ·cases t with
  | code c n rd ds ts h=>exact S.shape _ o he
  | call g us k =>
   simp only[EX] at he
   cases hb:Nat.beq g f with
   | true =>
    rw[hb] at he
    obtain⟨v,h,e,e2⟩:=Zre he
    exact .inl ⟨_,_,_,_,_,rfl,e2⟩
   | false=>rw[hb] at he; exact S.shape _ o he
theorem EY {E:Task→Option Out} (S:Sound K P E) {f:FuncId} {x:Kn1} (c:∀ {args:List W} {h h':H} {v:V},x args h=some (v,h')→Zv K P f args h v h'):Sound K P (EX E f x):=Zud S fun _ _ _ _ e=>c e
theorem Zy8 (E:Task→Option Out) (f:FuncId) (x:Kn1) (args:List W) (h:H):EX E f x (.call f args h)=Z0v (x args h):=by
 simp only[EX,Nat.beq_refl,cond_true]
theorem Zy9 {E:Task→Option Out} {f g:FuncId} {x:Kn1} {args:List W} {h:H} (e:g≠f):EX E f x (.call g args h)=E (.call g args h):=by
 have:Nat.beq g f=false:=Zqo e
 simp only[EX,this,cond_false]
def Yp {α:Type} (c:Bool) (k:Option α):Option α:=bif c then k else none
theorem Zr6 {α:Type} (k:Option α):Yp true k=k:=rfl
theorem Zr {α:Type} {c:Bool} {k:Option α} {r:α}:Yp c k=some r ↔ c=true∧k=some r:=by
 cases c
 ·refine⟨fun e=>?_,fun e=>?_⟩
  ·cases e
  ·cases e.1
 ·exact⟨fun e=>⟨rfl,e⟩,fun e=>e.2⟩
theorem Zh {α β:Type} {o:Option α} {g:α→Option β} {r:β} (e:o.bind g=some r):∃ a,o=some a∧g a=some r:=by
 cases o with
 | none=>cases e
 | some a=>exact⟨a,rfl,e⟩
def Zrr (b:Nat) (o:O):Prop:=o.simple=true∧o.ro=false∧∀ τ:Nat→Nat,(∀ m,m<b→τ m=m)→o.ren τ=o
def Zgp (b:Nat) (v:V):Prop:=∀ τ:Nat→Nat,(∀ m,m<b→τ m=m)→v.ren τ=v
def Nu (h h2:H):Prop:=h2.next=h.next∧∀ m o,h2.get m=some o→m<h.next∧(h.get m=some o∨Zrr h.next o)
theorem Nu.refl (tidy:∀ n o,h.get n=some o→n<h.next):Nu h h:=⟨rfl,fun m o e=>⟨tidy m o e,.inl e⟩⟩
theorem Nu.put {n:Nat} {o:O} (nr:Nu h h2) (hn:n<h.next) (lo:Zrr h.next o):Nu h (h2.put n o):=by
 refine⟨by rw[H.Zf]; exact nr.1,fun m o' e=>?_⟩
 rw[H.get_put] at e
 split at e
 ·rename_i hm
  subst hm
  cases e
  exact⟨hn,.inr lo⟩
 ·exact nr.2 m o' e
theorem Zgp.flat {b:Nat} (e:v.flat=true):Zgp b v:=fun τ _=>V.Jo e τ
theorem Zv.settle (c:Zv K P f args h v h1) (nr:Nu h h2) (hv:Zgp h.next v) (hk:∀ m,m<h.next→h1.get m=h2.get m):Zv K P f args h v h2:=by
 obtain⟨hn,nr⟩:=nr
 have hτ:∀ m,m<h.next→(if m<h.next then m else h1.next+m)=m:=fun m hm=>if_pos hm
 refine c.Za3 (τ:=fun m=>if m<h.next then m else h1.next+m) hτ (fun m hm=>?_) (Nat.le_of_eq hn.symm) (hv _ hτ) (fun m o ho=>?_) (fun m m' o o' ho ho' hne=>?_)
 ·show h1.next≤if m<h.next then m else h1.next+m
  rw[if_neg (by omega)]
  omega
 ·obtain⟨lm,a|⟨s,r,q⟩⟩:=nr m o ho
  ·exact .inl ⟨a,by rw[hk m lm]; exact ho⟩
  ·refine .inr ⟨s,r,?_⟩
   show h1.get (if m<h.next then m else h1.next+m)=some (o.ren _)
   rw[hτ m lm,q _ hτ,hk m lm]
   exact ho
 ·have e1:=(nr m o ho).1
  have e2:=(nr m' o' ho').1
  show (if m<h.next then m else _)≠(if m'<h.next then m' else _)
  rw[if_pos e1,if_pos e2]
  exact hne
abbrev O3:=List (Int × List C)
def J5 (l:O3):List (W × W):=l.map fun p=>(.c (.int .i64 p.1),.g p.2)
def Yx (b:Int):O3→Option (List C)
 | []=>none
 | (k,x) :: l=>bif b == k then some x else Yx b l
def Gy (b:Int) (x:List C):O3→O3
 | []=>[(b,x)]
 | (k,y) :: l=>bif b == k then (b,x) :: l else (k,y) :: Gy b x l
def Zec (b:Int):O3→O3
 | []=>[]
 | (k,y) :: l=>bif b == k then l else (k,y) :: Zec b l
def gOf:Option (List C)→Option W
 | some x=>some (.g x)
 | none=>none
theorem Zep (kt:TypeId) (b:Int):∀ l:O3,Zcy K kt (.c (.int .i64 b)) (J5 l)=some (gOf (Yx b l))
 | []=>rfl
 | (k,x) :: l=>by
  show (match (if IntKind.i64=IntKind.i64 then some (b == k) else none) with
   | none=>none
   | some true=>some (some (W.g x))
   | some false=>Zcy K kt (.c (.int .i64 b)) (J5 l))=_
  rw[if_pos rfl]
  show _=some (gOf (bif b == k then some x else Yx b l))
  cases b == k with
  | true=>rfl
  | false=>exact Zep kt b l
theorem Zh1 (kt:TypeId) (b:Int) (x:List C):∀ l:O3,Zor K kt (.c (.int .i64 b)) (.g x) (J5 l)=some (J5 (Gy b x l))
 | []=>rfl
 | (k,y) :: l=>by
  show (match (if IntKind.i64=IntKind.i64 then some (b == k) else none) with
   | none=>none
   | some true=>some ((W.c (.int .i64 b),W.g x) :: J5 l)
   | some false=>match Zor K kt (.c (.int .i64 b)) (.g x) (J5 l) with
    | none=>none
    | some l'=>some ((W.c (.int .i64 k),W.g y) :: l'))=_
  rw[if_pos rfl]
  show _=some (J5 (bif b == k then (b,x) :: l else (k,y) :: Gy b x l))
  cases b == k with
  | true=>rfl
  | false=>simp only; rw[Zh1 kt b x l]; rfl
theorem Zhf (kt:TypeId) (b:Int):∀ l:O3,Zll K kt (.c (.int .i64 b)) (J5 l)=some (J5 (Zec b l))
 | []=>rfl
 | (k,y) :: l=>by
  show (match (if IntKind.i64=IntKind.i64 then some (b == k) else none) with
   | none=>none
   | some true=>some (J5 l)
   | some false=>match Zll K kt (.c (.int .i64 b)) (J5 l) with
    | none=>none
    | some l'=>some ((W.c (.int .i64 k),W.g y) :: l'))=_
  rw[if_pos rfl]
  show _=some (J5 (bif b == k then l else (k,y) :: Zec b l))
  cases b == k with
  | true=>rfl
  | false=>simp only; rw[Zhf kt b l]; rfl
theorem Zeh (l:O3):(J5 l).length=l.length:=List.length_map ..
theorem Fs (b k:Int) (x:List C):∀ l:O3,Yx b (Gy k x l)=if b=k then some x else Yx b l
 | []=>by
  show (bif b == k then some x else none)=_
  by_cases e:b=k
  ·rw[if_pos e,Tf e]; rfl
  ·rw[if_neg e,Bl e]; rfl
 | (j,y) :: l=>by
  show Yx b (bif k == j then (k,x) :: l else (j,y) :: Gy k x l)=if b=k then some x else (bif b == j then some y else Yx b l)
  by_cases e:k=j
  ·subst e
   rw[Tf rfl,cond_true]
   show (bif b == k then some x else Yx b l)=_
   by_cases e:b=k
   ·rw[if_pos e,Tf e]; rfl
   ·rw[if_neg e,Bl e]; rfl
  ·rw[Bl e,cond_false]
   show (bif b == j then some y else Yx b (Gy k x l))=_
   rw[Fs b k x l]
   by_cases e2:b=j
   ·rw[Tf e2,cond_true,cond_true,if_neg (by omega)]
   ·rw[Bl e2,cond_false,cond_false]
def Gg (l:O3):Bool:=l.all fun p=>p.2.all C.flat
theorem Gu {b:Int} {x:List C} (hx:x.all C.flat=true):∀ {l:O3},Gg l=true→Gg (Gy b x l)=true
 | [],_=>by show (x.all C.flat&&true)=true; rw[hx]; rfl
 | (k,y) :: l,h=>by
  have h':(y.all C.flat&&Gg l)=true:=h
  rw[Bool.and_eq_true] at h'
  show Gg (bif b == k then (b,x) :: l else (k,y) :: Gy b x l)=true
  cases b == k with
  | true=>show (x.all C.flat&&Gg l)=true; rw[hx,h'.2]; rfl
  | false=>show (y.all C.flat&&Gg (Gy b x l))=true; rw[h'.1,Gu hx h'.2]; rfl
theorem Zes {b:Int}:∀ {l:O3},Gg l=true→Gg (Zec b l)=true
 | [],_=>rfl
 | (k,y) :: l,h=>by
  have h':(y.all C.flat&&Gg l)=true:=h
  rw[Bool.and_eq_true] at h'
  show Gg (bif b == k then l else (k,y) :: Zec b l)=true
  cases b == k with
  | true=>exact h'.2
  | false=>show (y.all C.flat&&Gg (Zec b l))=true; rw[h'.1,Zes h'.2]; rfl
theorem E5 {b:Nat} {l:O3} (h:Gg l=true):Zrr b (.map (J5 l)):=by
 refine⟨rfl,rfl,fun τ _=>?_⟩
 show O.map ((J5 l).map (Z5q τ))=_
 congr 1
 rw[J5,List.map_map]
 refine List.map_congr_left fun p hp=>?_
 show (W.c (.int .i64 p.1),(W.g p.2).ren τ)=_
 rw[W.Jo (x:=.g p.2) (List.all_eq_true.1 h p hp)]
theorem Zq8 {b sz:Nat} {els:List (List C)} (h:∀ τ:Nat→Nat,(∀ m,m<b→τ m=m)→els.map (List.map (C.ren τ))=els):Zrr b (.row sz els false) :=
 ⟨rfl,rfl,fun τ hτ=>by show O.row sz (els.map (List.map (C.ren τ))) false=_; rw[h τ hτ]⟩
def Vk:List (W × W)→Option O3
 | []=>some []
 | (.c (.int .i64 k),.g x) :: l=>match Vk l with
  | some r=>some ((k,x) :: r)
  | none=>none
 | _=>none
theorem Zcx:∀ {l:List (W × W)} {r:O3},Vk l=some r→l=J5 r
 | [],r,e=>by cases e; rfl
 | (a,x) :: l,r,e=>by
  unfold Vk at e
  split at e
  ·rename_i heq; cases heq
  ·rename_i k x' l' heq
   cases heq
   split at e
   ·rename_i r' hr
    cases e
    rw[Zcx hr]
    rfl
   ·cases e
  ·cases e
theorem Zcw:∀ l:O3,Vk (J5 l)=some l
 | []=>rfl
 | (k,x) :: l=>by
  show (match Vk (J5 l) with
   | some r=>some ((k,x) :: r)
   | none=>none)=_
  rw[Zcw l]
noncomputable def getM (h:H) (n:Nat):Option O3:=match h.get n with
 | some (.map es)=>Vk es
 | _=>none
theorem getM_some {n:Nat} {l:O3} (e:getM h n=some l):h.get n=some (.map (J5 l)):=by
 unfold getM at e
 split at e
 ·rename_i es he
  rw[he,Zcx e]
 ·cases e
theorem Za2 {sz:Nat} {x:List C} (h:x.length≤sz∧sz≤x.length∧0<sz):Zm sz [x] 0 sz=some x:=by
 obtain rfl:sz=x.length:=by omega
 exact Xa h.2.2
theorem Zmr {sz n:Nat} {x:List C} (h:x.length≤sz∧sz≤x.length∧0<n∧n≤sz):Zm sz [x] 0 n=some (x.take n):=by
 obtain rfl:sz=x.length:=by omega
 have e:Nat.beq n 0=false:=Zqo (by omega)
 simp only[Zm,Nat.zero_div,Nat.zero_mod,List.getElem?_cons_zero,List.drop_zero,Nat.zero_add,e,cond_false]
 rw[Nat.ble_eq_true_of_le h.2.2.2]
 rfl
theorem Zo0 {sz off n:Nat} {x:List C} (h:off+n≤sz∧x.length≤sz∧sz≤x.length∧0<n):Zm sz [x] off n=some ((x.drop off).take n):=by
 obtain rfl:sz=x.length:=by omega
 have e:Nat.beq n 0=false:=Zqo (by omega)
 have e1:off / x.length=0:=Nat.div_eq_of_lt (by omega)
 have e2:off % x.length=off:=Nat.mod_eq_of_lt (by omega)
 simp only[Zm,e1,e2,List.getElem?_cons_zero,e,cond_false]
 rw[Nat.ble_eq_true_of_le (by omega)]
 rfl
theorem Xd {sz:Nat} {l l':List C} (h:l'.length≤sz∧sz≤l'.length∧l.length≤sz∧sz≤l.length∧0<sz):Z9 sz [l] 0 l'=some [l']:=by
 obtain rfl:sz=l'.length:=by omega
 exact Ta h.2.2.2.2 (by omega)
theorem Zlv {z x:List C} {n:Nat} (h:x.length≤n∧n≤x.length∧n≤z.length):U7 z 0 n (.g x)=some (x++z.drop n):=by
 unfold U7
 rw[Zi1,Zu1 (by omega),Wn (by omega),Bool.and_self,cond_true,List.take_zero,List.nil_append,Nat.zero_add]
theorem Zsl {x z:List C} {c:C} {n:Nat} (h:x.length≤n∧n≤x.length∧z.length≤1∧1≤z.length):U7 (x++z) n 1 (.c c)=some (x++[c]):=by
 unfold U7
 have e1:(x++z).take n=x:=by rw[show n=x.length by omega,List.take_left']; rfl
 have e2:(x++z).drop (n+1)=[]:=List.drop_of_length_le (by rw[List.length_append]; omega)
 rw[Zi0,e1,e2,Wn (by rw[List.length_append]; omega)]
 show some (x++[c]++[])=_
 rw[List.append_nil]
theorem Zn6 {z:List C} {c d:C}:U7 (d :: z) 0 1 (.c c)=some (c :: z):=by
 unfold U7
 rw[Zi0,Wn (by rw[List.length_cons]; omega)]
 rfl
theorem Zsm {z x:List C} {c:C} {n:Nat} (h:x.length≤n∧n≤x.length∧z.length≤n∧n≤z.length):U7 (c :: z) 1 n (.g x)=some (c :: x):=by
 unfold U7
 rw[Zi1,Zu1 (by omega),Wn (by rw[List.length_cons]; omega),Bool.and_self,cond_true]
 have e:(c :: z).drop (1+n)=[]:=List.drop_of_length_le (by rw[List.length_cons]; omega)
 rw[e,List.append_nil]
 rfl
end
attribute [go_sem] Xd Za2
attribute [go_sem] Zy8 Zy9 Zs6 Zr6 Zep Zh1 Zhf Zeh Zcw getM Option.bind_some gOf
attribute [go_sem] Rl Dw Zb9 entriesOf found Mq Vy Yr
end Go.Ev
/- A call that the kernel runs in a small memory, of one row that it writes. -/
namespace Go.Ev
open Go.RowKit
section
variable {α:Type}
theorem Tree.Zfy (x y:Option α):∀ (f k:Nat),k<f→Tree.upd x (Tree.path y f k) k=Tree.path x f k
 | 0,_,h=>by omega
 | f+1,k,h=>by
  rw[Tree.Zb8,Tree.Zb8]
  split
  ·rename_i hk
   rw[Tree.Ej,if_pos hk]
  ·rename_i hk
   split
   ·rename_i ho
    rw[Tree.Ej,if_neg hk,if_pos ho,Tree.Zfy x y f (k / 2) (by omega)]
   ·rename_i ho
    rw[Tree.Ej,if_neg hk,if_neg ho,Tree.Zfy x y f (k / 2 - 1) (by omega)]
theorem Tree.Zkc (x y:Option α):∀ (t:Tree α) (k:Nat),Tree.upd x (Tree.upd y t k) k=Tree.upd x t k
 | .nil,k=>by rw[Tree.Zkb,Tree.Zkb,Tree.Zfy x y (k+1) k (by omega)]
 | .node v l r,k=>by
  rw[Tree.Ej,Tree.Ej]
  split
  ·rename_i hk
   rw[Tree.Ej,if_pos hk]
  ·rename_i hk
   split
   ·rename_i ho
    rw[Tree.Ej,if_neg hk,if_pos ho,Tree.Zkc x y l (k / 2)]
   ·rename_i ho
    rw[Tree.Ej,if_neg hk,if_neg ho,Tree.Zkc x y r (k / 2 - 1)]
end
theorem H.Zdv (h:H) (n:Nat) (a b:O):(h.put n a).put n b=h.put n b:=by
 show (⟨Tree.upd (some b) (Tree.upd (some a) h.m n) n,h.next⟩:H)=⟨Tree.upd (some b) h.m n,h.next⟩
 rw[Tree.Zkc]
section
variable {K:Cfg} {P:Program} {Y:Kn} {f:FuncId} {args:List W} {v:V}
end
section
variable {K:Cfg} {P:Program} {n:Nat} {rd:Option Nat} {b:Code} {ds ds1:List Nat} {ts ts1:Zw} {h h1:H} {Q:X→List Nat→Zw→H→Prop} {id:Nat}
theorem Yf.Zsa {id':Nat} (a1:Yf K P n rd b ds ts h (.exit id') ds1 ts1 h1) (hne:¬id'=id):Yf K P n rd (.block id b) ds ts h (.exit id') ds1 ts1 h1:=by
 intro D ρ w a r m hr hd ht hm hrd
 refine wpIn_block (wpIn_mono (a1 D ρ w a r m hr hd ht hm hrd) ?_)
 rintro e a1 w1 ⟨rfl,rest⟩
 show Exit.inBlock id _ (.exit id') a1 w1
 simp only[Exit.inBlock,if_neg hne]
 exact⟨rfl,rest⟩
theorem Z48 (g:Goes K P n rd b ds ts h fun x ds ts h=>match x with
  | .normal=>Q .normal ds ts h
  | .ret=>Q .ret ds ts h
  | .exit id'=>if id'=id then Q .normal ds ts h else Q (.exit id') ds ts h):Goes K P n rd (.block id b) ds ts h Q:=by
 obtain⟨x,ds',ts',h',g1,g2⟩:=g
 cases x with
 | normal=>exact⟨_,_,_,_,Yf.block g1,g2⟩
 | ret=>exact⟨_,_,_,_,Yf.Zg9 g1,g2⟩
 | exit id' =>
  simp only at g2
  split at g2
  ·rename_i e
   subst e
   exact⟨_,_,_,_,Yf.Zd7 g1,g2⟩
  ·rename_i e
   exact⟨_,_,_,_,Yf.Zsa g1 e,g2⟩
end
end Go.Ev
/- A range's rounds, all of them, known by one evaluator. -/
namespace Go.Ev
open Go.RowKit
section
variable {K:Cfg} {P:Program} {n:Nat} {rd:Option Nat}
theorem Dc {c:Code} {ds:List Nat} {ts:Zw} {h:H} {Q:X→List Nat→Zw→H→Prop} (g:∀ h',h'=h→Goes K P n rd c ds ts h' Q):Goes K P n rd c ds ts h Q:=g h rfl
open Classical in
noncomputable def EC (E:Task→Option Out) (c:Code) (n:Nat) (rd:Option Nat) (Pr:Zw→H→Prop) (F:Zw→H→X × List Nat × Zw × H):Task→Option Out:=fun t=>match t with
 | .code c' n' rd' ds ts h=>if c'=c∧n'=n∧rd'=rd∧ds=[]∧Pr ts h then some (.at (F ts h).1 (F ts h).2.1 (F ts h).2.2.1 (F ts h).2.2.2) else E t
 | t=>E t
theorem Zkx {E:Task→Option Out} (S:Sound K P E) {c:Code} {Pr:Zw→H→Prop} {F:Zw→H→X × List Nat × Zw × H} (k:∀ ts h,Pr ts h→Yf K P n rd c [] ts h (F ts h).1 (F ts h).2.1 (F ts h).2.2.1 (F ts h).2.2.2):Sound K P (EC E c n rd Pr F):=by
 refine⟨fun f us k0 u k' he=>?_,fun c2 n2 rd2 ds2 ts2 h2 x2 ds3 ts3 h3 he=>?_,fun t o he=>?_⟩
 ·exact S.call f us k0 u k' he
 ·simp only[EC] at he
  split at he
  ·rename_i q
   obtain⟨rfl,rfl,rfl,rfl,p⟩:=q
   cases he
   exact k ts2 h2 p
  ·exact S.code c2 n2 rd2 ds2 ts2 h2 x2 ds3 ts3 h3 he
 ·cases t with
  | call f us k=>exact S.shape _ o he
  | code c2 n2 rd2 ds2 ts2 h2 =>
   simp only[EC] at he
   split at he
   ·cases he
    exact .inr ⟨_,_,_,_,_,_,_,_,_,_,rfl,rfl⟩
   ·exact S.shape _ o he
theorem Zqh (E:Task→Option Out) (c:Code) (n:Nat) (rd:Option Nat) {Pr:Zw→H→Prop} (F:Zw→H→X × List Nat × Zw × H) {ts:Zw} {h:H} (p:Pr ts h):EC E c n rd Pr F (.code c n rd [] ts h)=some (.at (F ts h).1 (F ts h).2.1 (F ts h).2.2.1 (F ts h).2.2.2):=by
 simp [EC,p]
theorem Zy7 {E:Task→Option Out} {c c2:Code} {Pr:Zw→H→Prop} {F:Zw→H→X × List Nat × Zw × H} (ne:c2≠c) (n2:Nat) (rd2:Option Nat) (ds2:List Nat) (ts2:Zw) (h2:H):EC E c n rd Pr F (.code c2 n2 rd2 ds2 ts2 h2)=E (.code c2 n2 rd2 ds2 ts2 h2):=by
 simp [EC,ne]
open Classical in
noncomputable def Rn {Q:Zw→H→X→List Nat→Zw→H→Prop} {Pr:Zw→H→Prop} {c:Code} (g:∀ ts h,Pr ts h→Goes K P n rd c [] ts h (Q ts h)) (ts:Zw) (h:H):X × List Nat × Zw × H :=
 if p:Pr ts h then ((g ts h p).ex.choose,(g ts h p).ex.choose_spec.choose,(g ts h p).ex.choose_spec.choose_spec.choose,(g ts h p).ex.choose_spec.choose_spec.choose_spec.choose) else (.normal,[],ts,h)
theorem Zar {Q:Zw→H→X→List Nat→Zw→H→Prop} {Pr:Zw→H→Prop} {c:Code} (g:∀ ts h,Pr ts h→Goes K P n rd c [] ts h (Q ts h)) {ts:Zw} {h:H} (p:Pr ts h) :
  Yf K P n rd c [] ts h (Rn g ts h).1 (Rn g ts h).2.1 (Rn g ts h).2.2.1 (Rn g ts h).2.2.2∧Q ts h (Rn g ts h).1 (Rn g ts h).2.1 (Rn g ts h).2.2.1 (Rn g ts h).2.2.2:=by
 have e:Rn g ts h=((g ts h p).ex.choose,(g ts h p).ex.choose_spec.choose,(g ts h p).ex.choose_spec.choose_spec.choose,(g ts h p).ex.choose_spec.choose_spec.choose_spec.choose):=by unfold Rn; rw[dif_pos p]
 rw[e]
 exact (g ts h p).ex.choose_spec.choose_spec.choose_spec.choose_spec
theorem rounds {l:Nat} {assign body:Code} (ne:assign≠body) {PA PB:Zw→H→Prop} {QA:Zw→Zw→Prop} {QB:Zw→H→H→Prop}
  (hA:∀ ts h,PA ts h→Goes K P n (some l) assign [] ts h fun x ds' ts' h'=>x=.normal∧ds'=[]∧h'=h∧QA ts ts')
  (hB:∀ ts h,PB ts h→Goes K P n (some l) body [] ts h fun x _ _ h'=>x=.normal∧QB ts h h') :
  ∃ E,Sound K P E∧∀ (us:List W) (h:H) (lts ts1:Zw) (ps:List Tmp) (d:Nat),h.get l=some (.loop lts n ps assign body .ready none d)→U4 n ps us lts=some ts1→PA ts1 h →
   (∀ ts',QA ts1 ts'→PB ts' (h.put l (.loop lts n ps assign body .busy none d))) →
   ∃ ts' h',QA ts1 ts'∧QB ts' (h.put l (.loop lts n ps assign body .busy none d)) h' ∧
    (h'.get l=some (.loop lts n ps assign body .busy none d)→G9 E l (some us) h (some (.loop lts n ps assign body .ready none d))=some (.val (.w (.c (.bool true))) (h'.put l (.loop lts n ps assign body .ready none d)))):=by
 have SA:=Zkx (E:=E0) (K:=K) (P:=P) Za fun ts h p=>(Zar hA p).1
 have SB:=Zkx SA fun ts h p=>(Zar hB p).1
 refine⟨_,SB,fun us h lts ts1 ps d hl hz pa pb=>?_⟩
 obtain⟨kA,a1,a2,a3,a4⟩:=Zar hA pa
 have pB:=pb _ a4
 obtain⟨kB,b1,b2⟩:=Zar hB pB
 refine⟨_,_,a4,b2,fun hl2=>?_⟩
 have r:=Mf (E:=EC (EC E0 assign n (some l) PA (Rn hA)) body n (some l) PB (Rn hB)) hl hz (ds1:=[]) (ts2:=(Rn hA ts1 h).2.2.1) (h1:=h) (by
  rw[Zy7 ne,Zqh _ _ _ _ _ pa,a1,a2,a3]) hl (x:=.normal) (by
  rw[Zqh _ _ _ _ _ pB,b1]) hl2
 rw[hl] at r
 exact r
end
end Go.Ev
/- Runs in pieces: what a call leaves is laid down as a list of objects, and the next one begins there. -/
namespace Go.Ev
open Go.RowKit
noncomputable def mkT:List (Nat × O)→Tree O
 | []=>.nil
 | p :: l=>(mkT l).set p.1 p.2
noncomputable def mkH (l:List (Nat × O)) (next:Nat):H:=⟨mkT l,next⟩
noncomputable def Zz7 (h:H):List Nat→Option (List (Nat × O))
 | []=>some []
 | n :: l=>match h.get n with
  | none=>none
  | some o=>match Zz7 h l with
   | none=>none
   | some r=>some ((n,o) :: r)
def took1 (v:V) (h:H):Option (List (Nat × O))→Option (V × List (Nat × O) × Nat)
 | some l=>some (v,l,h.next)
 | none=>none
noncomputable def took (live:List Nat):Option Out→Option (V × List (Nat × O) × Nat)
 | some (.val v h)=>took1 v h (Zz7 h live)
 | _=>none
theorem Zl0 {h:H}:∀ {l:List Nat} {r:List (Nat × O)},Zz7 h l=some r→∀ p∈r,h.get p.1=some p.2
 | [],r,e=>by
  cases e
  intro p hp
  cases hp
 | n :: l,r,e=>by
  unfold Zz7 at e
  split at e
  ·cases e
  ·rename_i o ho
   split at e
   ·cases e
   ·rename_i r' hr
    cases e
    intro p hp
    cases hp with
    | head=>exact ho
    | tail _ hp=>exact Zl0 hr p hp
theorem Zra:∀ {l:List (Nat × O)} {n:Nat} {o:O},(mkT l).get n=some o→(n,o)∈l
 | [],n,o,e=>by
  have:(Tree.nil:Tree O).get n=some o:=e
  rw[Tree.Bt] at this
  cases this
 | p :: l,n,o,e=>by
  have e':((mkT l).set p.1 p.2).get n=some o:=e
  rw[Tree.Sa] at e'
  split at e'
  ·rename_i hn
   cases e'
   subst hn
   exact List.mem_cons_self
  ·exact List.mem_cons_of_mem _ (Zra e')
theorem Zxl {live:List Nat} {o:Option Out} {v:V} {l:List (Nat × O)} {next:Nat} (e:took live o=some (v,l,next)):∃ h,o=some (.val v h)∧h.next=next∧∀ n x,(mkH l next).get n=some x→h.get n=some x:=by
 unfold took at e
 split at e
 ·rename_i v' h
  unfold took1 at e
  split at e
  ·rename_i l' hl
   cases e
   exact⟨h,rfl,rfl,fun n x hx=>Zl0 hl _ (Zra hx)⟩
  ·cases e
 ·cases e
section
variable {K:Cfg} {P:Program} {Y:Kn} {f:FuncId} {args:List W} {v:V}
theorem Zv.took (F:Fits K P) (Hh:Hearts K P) (hY:Zdz K P Y) {n next:Nat} {h:H} {live:List Nat} {l:List (Nat × O)} (e:Go.Ev.took live (evX K Y n (.call f args h))=some (v,l,next)):Zv K P f args h v (mkH l next):=by
 obtain⟨h1,e1,e2,e3⟩:=Zxl e
 exact Zv.weak ((Lj F Hh hY n).call f args h v h1 e1) e2.symm e3
theorem Ziy {G:Nat} (hg:K.globs=Tree.set .nil G 0) {W:World} {cs:Array Value} {t:TypeId} {fr:Nat × Nat} (hb:W.heap[G]? = some (.cells cs t fr)) (hcs:cs.toList=steps16.map (Value.int .u32))
  {h':H} (c:Zv K P f args Sg (.w (.c (.bool true))) h') {vals:List Value} (ha:Yj (Jn (Nq G)) args vals) :
  Calls P f vals.toArray W fun e W'=>e=.returned (.bool true)∧Below W.heap.size W W':=by
 have hd:Dom (Nq G) Sg.next:=fun n hn=>by
  have:n≠0:=by have:1≤n:=hn; omega
  simp [Nq,this]
 have:=c.2 (Nq G) W vals none 0 (Zcc hg hb hcs) hd ha
 refine (callsIn_wide.1 (show CallsIn Fence.wide 0 P f vals.toArray W _ from this)).mono ?_
 rintro e W' ⟨ρ',val,rfl,aft,hv⟩
 have e:val=.bool true:=hv
 subst e
 refine⟨rfl,aft.fr.os,aft.fr.tape,aft.fr.output,aft.fr.size,fun k hk=>aft.fr.keep k hk ?_⟩
 rintro⟨m,o,l,ho,hro,_⟩
 obtain⟨rfl,rfl⟩:=Dh ho
 cases hro
end
end Go.Ev
/- A call that the kernel runs in the empty memory, whose answer leads to one new row: the same in every memory. -/
namespace Go.Ev
noncomputable def Zo1:Option Out→Option (Int × List (List C))
 | some (.val (.tup [.c (.int .i64 p),.c s,.c (.int .i64 0)]) h)=>match s with
  | .snil=>some (p,[])
  | .slice n 0 len 1=>match h.get n with
   | some (.row 1 els false)=>bif Nat.ble 1 n&&Nat.blt n h.next&&Nat.ble 1 els.length&&Nat.beq els.length len&&els.all (fun l=>l.all C.flat) then some (p,els) else none
   | _=>none
  | _=>none
 | _=>none
theorem Ztj {o:Option Out} {p:Int} {els:List (List C)} (e:Zo1 o=some (p,els)):∃ h s,o=some (.val (.tup [.c (.int .i64 p),.c s,.c (.int .i64 0)]) h)∧((els=[]∧s=.snil)∨∃ n,1≤n∧n<h.next∧s=.slice n 0 els.length 1∧h.get n=some (.row 1 els false)∧els.all (fun l=>l.all C.flat)=true∧1≤els.length):=by
 unfold Zo1 at e
 split at e
 ·rename_i p' s h
  split at e
  ·cases e; exact⟨h,.snil,rfl,.inl ⟨rfl,rfl⟩⟩
  ·rename_i n len
   split at e
   ·rename_i els' ho
    cases hb:(Nat.ble 1 n&&Nat.blt n h.next&&Nat.ble 1 els'.length&&Nat.beq els'.length len&&els'.all (fun l=>l.all C.flat)) with
    | false=>rw[hb] at e; cases e
    | true =>
     rw[hb] at e
     cases e
     simp only[Bool.and_eq_true] at hb
     obtain⟨⟨⟨⟨b1,b2⟩,b3⟩,b4⟩,b5⟩:=hb
     obtain rfl:=Nat.eq_of_beq_eq_true b4
     exact⟨h,_,rfl,.inr ⟨n,Nat.le_of_ble_eq_true b1,by simpa [Nat.blt_eq] using b2,rfl,ho,b5,Nat.le_of_ble_eq_true b3⟩⟩
   ·cases e
  ·cases e
 ·cases e
section
variable {K:Cfg} {P:Program} {Y:Kn} {f:FuncId} {args:List W}
theorem Zv.Zqu (F:Fits K P) (Hh:Hearts K P) (hY:Zdz K P Y) {G:Nat} (hg:K.globs=Tree.set .nil G 0) {n:Nat} {p:Int} {els:List (List C)} (e:Zo1 (evX K Y n (.call f args ⟨.nil,1⟩))=some (p,els)) (ha:args.all W.flat=true) (h:H) (hpos:0<h.next) :
  ∃ h' s,Zv K P f args h (.tup [.c (.int .i64 p),.c s,.c (.int .i64 0)]) h'∧h.next≤h'.next∧(∀ m,m<h.next→h'.get m=h.get m)∧((els=[]∧s=.snil)∨∃ q,h.next≤q∧q<h'.next∧s=.slice q 0 els.length 1∧h'.get q=some (.row 1 els false)∧1≤els.length):=by
 obtain⟨h1,s,e1,hs⟩:=Ztj e
 have c0:Zv K P f args ⟨.nil,1⟩ (.tup [.c (.int .i64 p),.c s,.c (.int .i64 0)]) h1:=(Lj F Hh hY n).call f args _ _ _ e1
 have none0:∀ n o,¬ (⟨.nil,1⟩:H).get n=some o:=fun n o hn=>by cases hn
 have L:Lies K (fun n=>if n<1 then n else h.next+(n - 1)) ⟨.nil,1⟩ h:=by
  refine⟨fun n hn=>if_neg (by have:1≤n:=hn; omega),fun n hn=>?_,fun n o ho=>(none0 n o ho).elim,fun n n' o o' ho=>(none0 n o ho).elim,fun g n hgn=>?_⟩
  ·show (if n<1 then n else _)<h.next
   have:n<1:=hn
   rw[if_pos this]
   omega
  ·rw[(Vp hg hgn).2]; rfl
 rcases hs with ⟨rfl,rfl⟩|⟨k,k1,k2,rfl,ho,hfl,el⟩
 ·have c1:=c0.frame L (h':=⟨h.m,h.next+(h1.next - 1)⟩) ⟨rfl,fun m o ho=>.inl ⟨ho,fun n o' ho'=>(none0 n o' ho').elim⟩⟩
  rw[Uw (fun a ha=>W.Jo ha _) ha] at c1
  exact⟨⟨h.m,h.next+(h1.next - 1)⟩,.snil,c1,Nat.le_add_right _ _,fun m _=>rfl,.inl ⟨rfl,rfl⟩⟩
 ·have fl:∀ σ:Nat→Nat,(O.row 1 els false).ren σ=.row 1 els false:=fun σ=>by
   show O.row 1 (els.map (List.map (C.ren σ))) false=_
   rw[Uw (fun l hl=>Uw (fun a ha=>C.Jo ha _) hl) hfl]
  have sk:(if k<1 then k else h.next+(k - 1))=h.next+(k - 1):=if_neg (by omega)
  have c1:=c0.frame L (h':=(⟨h.m,h.next+(h1.next - 1)⟩:H).put (h.next+(k - 1)) (.row 1 els false)) ⟨rfl,fun m o ho'=>by
   rw[H.get_put] at ho'
   split at ho'
   ·rename_i hm
    cases ho'
    exact .inr ⟨k,_,ho,rfl,rfl,by show (if k<1 then k else h.next+(k - 1))=m; rw[sk,hm],(fl _).symm⟩
   ·exact .inl ⟨ho',fun n o' ho2=>(none0 n o' ho2).elim⟩⟩
  rw[Uw (fun a ha=>W.Jo ha _) ha] at c1
  refine⟨(⟨h.m,h.next+(h1.next - 1)⟩:H).put (h.next+(k - 1)) (.row 1 els false),.slice (h.next+(k - 1)) 0 els.length 1,?_,Nat.le_add_right h.next _,fun m hm=>by rw[Zo (by omega)]; rfl,.inr ⟨h.next+(k - 1),Nat.le_add_right _ _,by rw[H.Zf]; show h.next+(k - 1)<h.next+(h1.next - 1); omega,rfl,Yg ..,el⟩⟩
  have ev:(V.tup [.c (.int .i64 p),.c (.slice k 0 els.length 1),.c (.int .i64 0)]).ren (fun n=>if n<1 then n else h.next+(n - 1))=.tup [.c (.int .i64 p),.c (.slice (h.next+(k - 1)) 0 els.length 1),.c (.int .i64 0)]:=by
   show V.tup [.c (.int .i64 p),.c (.slice (if k<1 then k else h.next+(k - 1)) 0 els.length 1),.c (.int .i64 0)]=_
   rw[sk]
  rw[ev] at c1
  exact c1
end
end Go.Ev
/- Sorted keys of maps with ints as keys; what a row of writes leaves. -/
namespace Go.Ev
theorem Ze8 (a x:Int):∀ l:List Int,x∈Zai a l ↔ x=a∨x∈l
 | []=>by simp [Zai]
 | b :: l=>by
  unfold Zai
  split
  ·simp
  ·rw[List.mem_cons,Ze8 a x l,List.mem_cons]
   constructor
   ·rintro (h|h|h)
    ·exact .inr (.inl h)
    ·exact .inl h
    ·exact .inr (.inr h)
   ·rintro (h|h|h)
    ·exact .inr (.inl h)
    ·exact .inl h
    ·exact .inr (.inr h)
theorem Zl4 (a:Int):∀ l:List Int,(Zai a l).length=l.length+1
 | []=>rfl
 | b :: l=>by
  unfold Zai
  split
  ·rfl
  ·rw[List.length_cons,Zl4 a l]; rfl
def M8:O3→List Int
 | []=>[]
 | (k,_) :: l=>Zai k (M8 l)
theorem Tk:∀ {l:O3},(∀ p∈l,Lh p.1=true)→Br (J5 l)=some (M8 l)
 | [],_=>rfl
 | (k,x) :: l,h=>by
  show (bif Lh k then (match Br (J5 l) with
   | none=>none
   | some r=>some (Zai k r)) else none)=_
  rw[h (k,x) (by simp),Tk (fun p hp=>h p (by simp [hp]))]
  rfl
theorem Xp:∀ l:O3,(M8 l).length=l.length
 | []=>rfl
 | (k,_) :: l=>by rw[M8,Zl4,Xp l]; rfl
theorem Zhv {k:Int}:∀ {l:O3},k∈M8 l ↔ (Yx k l).isSome=true
 | []=>by simp [M8,Yx]
 | (j,y) :: l=>by
  rw[M8,Ze8,Zhv (l:=l)]
  show _ ↔ (bif k == j then some y else Yx k l).isSome=true
  by_cases e:k=j
  ·rw[Tf e]; simp [e]
  ·rw[Bl e]; simp [e]
end Go.Ev
/- Calls that give true, of arguments that lie in memory. -/
namespace Go.Ev
open Go.RowKit
section
variable {K:Cfg} {P:Program} {f:FuncId} {args:List W} {h h':H}
theorem Zix {ρ:Ren} {W:World} (hr:Rep K ρ h W) (hd:Dom ρ h.next) (hro:∀ n o,h.get n=some o→o.ro=true) (c:Zv K P f args h (.w (.c (.bool true))) h') {vals:List Value} (ha:Yj (Jn ρ) args vals) :
  Calls P f vals.toArray W fun e W'=>e=.returned (.bool true)∧Below W.heap.size W W':=by
 have:=c.2 ρ W vals none 0 hr hd ha
 refine (callsIn_wide.1 (show CallsIn Fence.wide 0 P f vals.toArray W _ from this)).mono ?_
 rintro e W' ⟨ρ',val,rfl,aft,hv⟩
 have e:val=.bool true:=hv
 subst e
 refine⟨rfl,aft.fr.os,aft.fr.tape,aft.fr.output,aft.fr.size,fun k hk=>aft.fr.keep k hk ?_⟩
 rintro⟨m,o,l,ho,hr0,_⟩
 rw[hro m o ho] at hr0
 cases hr0
end
end Go.Ev
/- What the cells of an argument are, told by its type: numbers, strings, truths, row by row. -/
namespace Go.Ev
open Go.ChangeShapes Go.WideShapes
inductive Kt where
 | int (k:IntKind)
 | bool
 | str
def Kt.has:Kt→Value→Prop
 | .int k,v=>∃ n,v=.int k n∧(Lit.int k n).wf=true
 | .bool,v=>∃ b,v=.bool b
 | .str,v=>∃ s:ByteArray,v=.string s
section
variable {P:Program} {cs:List Value}
end
end Go.Ev
