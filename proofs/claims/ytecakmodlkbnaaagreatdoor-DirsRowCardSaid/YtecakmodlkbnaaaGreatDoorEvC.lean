/- The evaluator, its soundness and the calculus on its level: several texts in one. -/
import Derived.Test.YtecakmodlkbnaaaGreatDoorEvB
import Derived.Below
import Derived.OpenShut
import Derived.MakeChecks
import Derived.ChangeArms
import Derived.FnData
import Derived.Attr
import Derived.WideShapes
set_option linter.unusedSimpArgs false
set_option linter.unusedVariables false
set_option linter.unusedSectionVars false
/- What the evaluator knows by heart: slices.Sorted(maps.Keys(m)) of a map whose keys are ints. -/
namespace Go.Ev
open Go.RowKit Go.Maps
section
variable {K:Cfg} {P:Program} {ρ:Ren} {h h':H} {w w':World}
theorem Rep.newAt (hr:Rep K ρ h w) (hn:ρ h.next=none) (o:O) (g room:Nat) (hg:w.heap.size≤g) (hk:∀ k,k<w.heap.size→w'.heap[k]? = w.heap[k]?) (hs:w.heap.size≤w'.heap.size)
  (hor:Bn (ρ.set h.next ⟨g,0,room⟩) w' o ⟨g,0,room⟩) (h1:w'.os=w.os) (h2:w'.tape=w.tape) (h3:w'.output=w.output) (hro:o.ro=false:=by rfl) :
  Aft K ρ h w (ρ.set h.next ⟨g,0,room⟩) (h.new o) w':=by
 have hle:Ren.le ρ (ρ.set h.next ⟨g,0,room⟩):=Ren.Xv hn _
 have hold:∀ m x,m≠h.next→(h.new o).get m=some x→∃ lm,ρ m=some lm∧Bn ρ w x lm:=fun m x hm hx=>by
  rw[H.Z7,if_neg hm] at hx
  exact hr.obj m x hx
 refine⟨hle,New.set _ _ _,⟨fun g n hg=>?_,fun m x hx=>?_,fun m m' x x' lm lm' hne hx hx' hlm hlm'=>?_⟩,⟨h1,h2,h3,hs,fun k hk' _=>hk k hk',fun k hm=>?_,fun m x hx hxr=>?_⟩,Nat.le_succ _⟩
 ·obtain⟨r,hr'⟩:=hr.glob g n hg
  exact⟨r,hle _ _ hr'⟩
 ·by_cases e:m=h.next
  ·subst e
   rw[H.Z7,if_pos rfl] at hx
   cases hx
   exact⟨_,Ren.Ja _ _ _,hor⟩
  ·obtain⟨lm,hlm,hrm⟩:=hold m x e hx
   exact⟨lm,hle _ _ hlm,(hrm.mono hle).congr (hk _ hrm.lt)⟩
 ·by_cases e:m=h.next
  ·subst e
   rw[Ren.Ja] at hlm
   cases hlm
   obtain⟨l2,hl2,hr2⟩:=hold m' x' (fun e=>hne e.symm) hx'
   rw[Ren.Fg _ _ (fun e=>hne e.symm),hl2] at hlm'
   cases hlm'
   have:=hr2.lt
   intro _
   simp only
   omega
  ·obtain⟨l1,hl1,hr1⟩:=hold m x e hx
   rw[Ren.Fg _ _ e,hl1] at hlm
   cases hlm
   by_cases e':m'=h.next
   ·subst e'
    rw[Ren.Ja] at hlm'
    cases hlm'
    have:=hr1.lt
    intro _
    simp only
    omega
   ·obtain⟨l2,hl2,hr2⟩:=hold m' x' e' hx'
    rw[Ren.Fg _ _ e',hl2] at hlm'
    cases hlm'
    rw[H.Z7,if_neg e] at hx
    rw[H.Z7,if_neg e'] at hx'
    exact hr.inj m m' x x' _ _ hne hx hx' hl1 hl2
 ·obtain⟨m,x,lm,hx,hxr,hlm,hkm⟩:=hm
  by_cases e:m=h.next
  ·subst e
   rw[Ren.Ja] at hlm
   cases hlm
   exact .inl (by simp only at hkm; omega)
  ·rw[H.Z7,if_neg e] at hx
   rw[Ren.Fg _ _ e] at hlm
   exact .inr ⟨m,x,lm,hx,hxr,hlm,hkm⟩
 ·rw[H.Z7] at hx
  split at hx
  ·cases hx
   rw[hro] at hxr
   cases hxr
  ·exact hx
theorem Rep.stay (hr:Rep K ρ h w) (hk:∀ k,k<w.heap.size→w'.heap[k]? = w.heap[k]?) (hs:w.heap.size≤w'.heap.size) (h1:w'.os=w.os) (h2:w'.tape=w.tape) (h3:w'.output=w.output):Aft K ρ h w ρ h w':=by
 refine⟨Ren.le.refl _,New.refl _ _ _,⟨hr.glob,fun m x hx=>?_,hr.inj⟩,⟨h1,h2,h3,hs,fun k hk' _=>hk k hk',fun k hm=>.inr hm,fun m x hx _=>hx⟩,Nat.le_refl _⟩
 obtain⟨lm,hlm,hrm⟩:=hr.obj m x hx
 exact⟨lm,hlm,hrm.congr (hk _ hrm.lt)⟩
theorem Zd1 (a:Int):∀ l:List Int,(Zt6 a l).Perm (a :: l)
 | []=>List.Perm.refl _
 | b :: l=>by
  unfold Zt6
  split
  ·exact List.Perm.refl _
  ·exact ((Zd1 a l).cons b).trans (List.Perm.swap a b l)
theorem Zfn (a:Int):∀ l:List Int,l.Pairwise (· ≤ ·)→(Zt6 a l).Pairwise (· ≤ ·)
 | [],_=>by simp [Zt6]
 | b :: l,hl=>by
  unfold Zt6
  have hb:=List.pairwise_cons.1 hl
  split
  ·rename_i hab
   refine List.pairwise_cons.2 ⟨fun x hx=>?_,hl⟩
   rcases List.mem_cons.1 hx with rfl|hx
   ·exact hab
   ·exact Int.le_trans hab (hb.1 x hx)
  ·rename_i hab
   refine List.pairwise_cons.2 ⟨fun x hx=>?_,Zfn a l hb.2⟩
   rcases List.mem_cons.1 ((Zd1 a l).mem_iff.1 hx) with rfl|hx
   ·omega
   ·exact hb.1 x hx
def Qo (e:MapEntry):Int:=match e.key with
 | .int _ n=>n
 | _=>0
theorem Tp:∀ (es:List (W × W)) (l:List Int) (xs:List MapEntry),Ld es=some l→Yr (Zft ρ) es xs →
  l.Pairwise (· ≤ ·)∧l.Perm (xs.map Qo)∧∀ e∈xs,∃ a:Int,e.key=.int .i64 a∧Zch a=true
 | [],l,[],hl,_=>by
  cases hl
  exact⟨List.Pairwise.nil,List.Perm.refl _,fun e he=>by cases he⟩
 | [],_,_ :: _,_,h=>h.elim
 | _ :: _,_,[],_,h=>h.elim
 | (k,v) :: es,l,x :: xs,hl,hx=>by
  unfold Ld at hl
  split at hl
  ·rename_i e
   cases e
  ·rename_i a v' es' e
   cases e
   cases hf:Zch a with
   | false=>rw[hf] at hl; cases hl
   | true =>
    rw[hf] at hl
    simp only[cond_true] at hl
    split at hl
    ·cases hl
    ·rename_i r hr
     cases hl
     obtain⟨p1,p2,p3⟩:=Tp es r xs hr hx.2
     have hk:x.key=.int .i64 a:=hx.1.1
     refine⟨Zfn a r p1,?_,fun e he=>?_⟩
     ·refine (Zd1 a r).trans ?_
      rw[List.map_cons]
      have:Qo x=a:=by simp [Qo,hk]
      rw[this]
      exact p2.cons a
     ·rcases List.mem_cons.1 he with rfl|he
      ·exact⟨a,hk,hf⟩
      ·exact p3 e he
  ·cases hl
theorem insert_perm {H:Type} (x:Lit × DataW H):∀ l:List (Lit × DataW H),(DataW.insert x l).Perm (x :: l)
 | []=>List.Perm.refl _
 | y :: r=>by
  unfold DataW.insert
  split
  ·exact List.Perm.refl _
  ·exact ((insert_perm x r).cons y).trans (List.Perm.swap x y r)
theorem Sj {H:Type}:∀ l:List (Lit × DataW H),(l.foldr DataW.insert []).Perm l
 | []=>List.Perm.refl _
 | x :: l=>(insert_perm x _).trans ((Sj l).cons x)
theorem Zvz (P:Program) (k:TypeId) (hk:P.underlying k=some (.int .i64)) {b clock:Nat} {xs:Array MapEntry} (hb:w.heap[b]? = some (.map xs clock)) (hborn:Born xs.toList clock) (hn:xs.size≤1000000)
  (hkeys:∀ e∈xs.toList,∃ a:Int,e.key=.int .i64 a∧Zch a=true) :
  ∃ D:DataW Nat,w.ownsMap P k (fun _=>some (.nil,[])) b xs.size D∧Maps.size D=xs.size∧(Go.intKeys D).Perm (xs.toList.map Qo):=by
 have hrd:∀ e∈xs.toList,WideElems.rd P k (fun _=>some ((.nil,[]):DataW Nat × List MemPlace)) e=some (.int .i64 (Qo e),.nil):=by
  intro e he
  obtain⟨a,ha,hf⟩:=hkeys e he
  have hwf:(Lit.int .i64 a).wf=true:=by
   simp [Zch] at hf
   simp [Lit.wf,IntKind.min,IntKind.max,IntKind.signed,IntKind.bits]
   omega
  simp [WideElems.rd,ha,keyOf,hk,mapKey,hwf,Qo]
 have hrg:xs.toList.map (WideElems.rg P k (fun _=>some ((.nil,[]):DataW Nat × List MemPlace)))=xs.toList.map (fun e=>(Lit.int .i64 (Qo e),(.nil:DataW Nat))):=by
  apply List.map_congr_left
  intro e he
  simp [WideElems.rg,hrd e he]
 have hp:=Sj (xs.toList.map (fun e=>(Lit.int .i64 (Qo e),(.nil:DataW Nat))))
 have hml:xs.size≤maxLen:=Nat.le_trans hn (by decide)
 refine⟨_,⟨xs,clock,hb,⟨hml,⟨hborn.old,?_⟩,fun x hx=>⟨_,hrd x hx⟩⟩,Nat.le_refl _,rfl⟩,?_,?_⟩
 ·refine⟨List.pairwise_map.2 (hborn.up.imp fun h e=>?_),List.pairwise_map.2 (hborn.apart.imp_of_mem fun {x y} hx hy h e=>?_)⟩
  ·rw[e] at h
   exact Nat.lt_irrefl _ h
  ·obtain⟨p,hp,_⟩:=hkeys x hx
   exact h _ _ hp (e.symm.trans hp)
 ·rw[hrg,Maps.size_eq,hp.length_eq,List.length_map,Array.length_toList]
 ·rw[hrg]
  refine (hp.map _).trans ?_
  rw[List.map_map]
  exact List.Perm.refl _
structure SortC (P:Program) (f:FuncId):Prop where
 call:Ga P f
 lay:∃ r:Go.Shelf.Ren,Go.Proofs.SlLaysZI.n6 P r∧r.f 6=f∧Go.Proofs.AnyZI.SortsIn P r Fence.wide 3∧∀ args w,(callFunc (r.f 9) args).run P w=.ok (.enter (r.f 9) args) w
structure KeysC (P:Program) (g:FuncId):Prop where
 lay:∃ r:Go.Shelf.Ren,Go.Proofs.SlLaysZI.n10 P r∧r.f 10=g∧∀ args w,(callFunc g args).run P w=.ok (.enter g args) w
theorem Zeb {f g:FuncId} (c:SortC P f) (eg:∀ args w,(callFunc g args).run P w=.ok (.enter g args) w) {lb:Array Value} {S:List Int→Prop} {N:Nat} (hN:N≤1000000) (hs:SeqGives Fence.wide 1 P g lb Go.encZ S N w) {r:Option Nat} {m:Nat} :
  CallsIn (Wd r) m P f #[.func (.func g) #[] lb] w fun e w'=>∃ (v:Value) (ss:List Int) (t:TypeId),e=.returned v∧S ss ∧
   w'.ownsRow w.heap.size t 1 v ss.length ((ss.mergeSort (fun x y=>decide (x≤y))).map Go.encZ)∧(v=.slice none 0 0 ↔ ss=[])∧Below w.heap.size w w':=by
 obtain⟨q,L,rfl,hsort,e9⟩:=c.lay
 have hml:N≤maxLen:=Nat.le_trans hN (by decide)
 refine V9 (callsIn_wide.1 ((Go.Proofs.AnyZI.sorted_in L Fence.wide 4 trivial trivial trivial trivial rfl (Nat.le_refl _) hsort e9 g lb trivial eg S N hml (by omega) w hs).mono ?_))
 rintro e w' ⟨v,ss,he,h1,h2,h3,h4⟩
 exact⟨v,ss,_,he,h1,h2,h3,h4⟩
theorem Z6w {l ss:List Int} (hl:l.Pairwise (· ≤ ·)) (hp:ss.Perm l):ss.mergeSort (fun x y=>decide (x≤y))=l:=by
 refine List.Perm.eq_of_pairwise (le:=(· ≤ ·)) (fun a b _ _ h1 h2=>Int.le_antisymm h1 h2) ?_ hl ((List.mergeSort_perm _ _).trans hp)
 exact (List.pairwise_mergeSort (le:=fun x y:Int=>decide (x≤y)) (fun a b c h1 h2=>by simp at *; omega) (fun a b=>by simp; omega) ss).imp (fun h=>by simpa using h)
theorem Zse {l ss:List Int} (hl:l.Pairwise (· ≤ ·)) (hp:ss.Perm l) (hne:l≠[]) (hr:Rep K ρ h w) (hd:Dom ρ h.next) {v:Value} {t:TypeId}
  (ho:w'.ownsRow w.heap.size t 1 v ss.length ((ss.mergeSort (fun x y=>decide (x≤y))).map Go.encZ)) (hb:Below w.heap.size w w') :
  Qe K ρ h w (.w (.c (.slice h.next 0 l.length 1))) (h.new (.row 1 (l.map fun i=>[.int .i64 i]) false)) (.returned v) w':=by
 rw[Z6w hl hp] at ho
 have hlen:=hp.length_eq
 rcases ho.2 with ⟨_,h0⟩|⟨g,cap,cur,rfl,hg,hh,h1,h2,h3,h4⟩
 ·exact absurd (List.eq_nil_of_length_eq_zero (hlen ▸ h0)) hne
 ·rw[hlen] at h1 h4 ⊢
  refine⟨_,_,rfl,hr.newAt (hd _ (Nat.le_refl _)) _ g cap hg hb.block hb.size ?_ hb.os hb.tape hb.output,?_⟩
  ·refine⟨cur,t,(0,0),hh,by simpa using h3,fun _=>.inl rfl,fun x hx=>?_,fun k c hc=>?_⟩
   ·obtain⟨i,_,rfl⟩:=List.mem_map.1 hx
    rfl
   ·unfold read1 at hc
    simp only[Nat.div_one,Nat.mod_one] at hc
    split at hc
    ·cases hc
    ·rename_i e he
     rw[List.getElem?_map] at he
     cases hi:l[k]? with
     | none=>rw[hi] at he; cases he
     | some i =>
      rw[hi] at he
      cases he
      cases hc
      refine⟨.int .i64 i,?_,rfl⟩
      have hk:k<l.length:=(List.getElem?_eq_some_iff.1 hi).1
      have:(cur.toList.take (l.length * 1))[k]? = some (Go.encZ i):=by rw[h4,List.getElem?_map,hi]; rfl
      rw[List.getElem?_take_of_lt (by omega),Array.getElem?_toList] at this
      simpa using this
  ·exact⟨_,_,cap,Ren.Ja _ _ _,rfl,.inr ⟨rfl,h1,by simp⟩⟩
theorem Zyf {f:FuncId} (c:SortC P f) (kc:∀ g,K.keys.contains g=true→KeysC P g) {args:List W} {v:V} (hv:Mj K h args=some (.val v h')) {vals:List Value} {r:Option Nat} {m:Nat} (hr:Rep K ρ h w) (hd:Dom ρ h.next) (ha:Yr (Ju ρ) args vals):CallsIn (Wd r) m P f vals.toArray w (Qe K ρ h w v h'):=by
 unfold Mj at hv
 split at hv
 ·rename_i g a off
  cases hb:K.keys.contains g with
  | false=>rw[hb] at hv; cases hv
  | true =>
   rw[hb] at hv
   simp only[cond_true] at hv
   split at hv
   ·rename_i sz els ro ho
    obtain⟨u,rfl,hu⟩:=Mc ha
    obtain⟨fa,ca,rfl,q1,q2⟩:=hu
    have hfa:fa = #[]:=by
     cases hfl:fa.toList with
     | nil=>exact Array.toList_eq_nil_iff.1 hfl
     | cons x y=>rw[hfl] at q1; exact q1.elim
    subst hfa
    obtain⟨cv,hcv,hcp⟩:=Mc q2
    obtain⟨la,hla,rfl⟩:=hcp
    have hca:ca = #[.pointer (some (la.at off))]:=by
     apply Array.toList_inj.1
     rw[hcv]
    subst hca
    obtain⟨la',hla',cs,t,fr,hcell,hsz,hfr,hw,hrd⟩:=hr.obj a _ ho
    rw[hla] at hla'
    cases hla'
    obtain⟨rk,LK,rfl,eg⟩:=(kc g hb).lay
    have hBm:la.blk<w.heap.size:=(Array.getElem?_eq_some_iff.1 hcell).1
    unfold Zcm at hv
    split at hv
    ·
     rename_i hc1
     cases hv
     obtain⟨cv,hcv1,hcv2⟩:=hrd off _ hc1
     have e:cv=.map none:=hcv2
     subst e
     have hm:w.cell? (la.at off)=some (.map none):=by simp [World.cell?,Loc.at,hcell,hcv1]
     refine (Zeb c eg (N:=0) (by omega) (Go.Proofs.EvKeys.Zya LK Fence.wide 1 trivial rfl la.blk (la.base+off) w hBm hm)).mono ?_
     rintro e w' ⟨v,ss,t,rfl,rfl,h2,h3,h4⟩
     refine⟨ρ,v,rfl,hr.stay h4.block h4.size h4.os h4.tape h4.output,?_⟩
     rw[h3.2 rfl]
     rfl
    ·rename_i n hc1
     split at hv
     ·rename_i es hes
      obtain⟨cv,hcv1,lm,hlm,rfl⟩:=hrd off _ hc1
      have hm:w.cell? (la.at off)=some (.map (some lm.blk)):=by simp [World.cell?,Loc.at,hcell,hcv1]
      obtain⟨lm',hlm',xs,clock,hxb,hxs,hborn⟩:=hr.obj n _ hes
      rw[hlm] at hlm'
      cases hlm'
      unfold Zeu at hv
      split at hv
      ·rename_i hsk
       cases hv
       obtain⟨p1,p2,p3⟩:=Tp es [] xs.toList hsk hxs
       have hx0:xs.toList=[]:=by
        have:=p2.length_eq
        simp at this
        simpa using this.symm
       have hsz0:xs.size=0:=by rw[←Array.length_toList,hx0]; rfl
       obtain⟨D,d1,d2,d3⟩:=Zvz P (rk.t 26) LK.t26 hxb hborn (by omega) p3
       refine (Zeb c eg (N:=Maps.size D) (by omega) (Go.Proofs.EvKeys.gives LK Fence.wide 1 trivial rfl (Nat.le_refl _) la.blk (la.base+off) lm.blk _ D w hBm hm d1)).mono ?_
       rintro e w' ⟨v,ss,t,rfl,hss,h2,h3,h4⟩
       refine⟨ρ,v,rfl,hr.stay h4.block h4.size h4.os h4.tape h4.output,?_⟩
       have hs0:ss=[]:=by
        have:=(hss.trans d3).length_eq
        rw[hx0] at this
        exact List.eq_nil_of_length_eq_zero this
       rw[h3.2 hs0]
       rfl
      ·rename_i l hne hsk
       cases hb2:Nat.ble l.length 1000000 with
       | false=>rw[hb2] at hv; cases hv
       | true =>
        rw[hb2] at hv
        cases hv
        have hle:=Ob hb2
        obtain⟨p1,p2,p3⟩:=Tp es l xs.toList hsk hxs
        have hll:=p2.length_eq
        rw[List.length_map] at hll; have hxl:xs.toList.length=xs.size:=Array.length_toList
        obtain⟨D,d1,d2,d3⟩:=Zvz P (rk.t 26) LK.t26 hxb hborn (by omega) p3
        refine (Zeb c eg (N:=Maps.size D) (by omega) (Go.Proofs.EvKeys.gives LK Fence.wide 1 trivial rfl (Nat.le_refl _) la.blk (la.base+off) lm.blk _ D w hBm hm d1)).mono ?_
        rintro e w' ⟨v,ss,t,rfl,hss,h2,h3,h4⟩
        exact Zse p1 ((hss.trans d3).trans p2.symm) (fun e=>hne e) hr hd h2 h4
      ·cases hv
     ·cases hv
    ·cases hv
   ·cases hv
 ·cases hv
end
end Go.Ev
/- A program's tables, checked. -/
namespace Go.Ev
open Go.RowKit
def atO {α:Type} (p:Nat→α→Prop) (o:Nat):Option α→Prop
 | some x=>p o x
 | none=>True
def Tree.Znw {α:Type} (p:Nat→α→Prop):Tree α→Nat→Nat→Prop
 | .nil,_,_=>True
 | .node v l r,m,o=>atO p o v∧l.Znw p (2 * m) (o+m)∧r.Znw p (2 * m) (o+2 * m)
theorem Tree.Znw.get {α:Type} {p:Nat→α→Prop}:∀ {t:Tree α} {m o:Nat},t.Znw p m o→∀ k x,t.get k=some x→p (o+m * k) x
 | .nil,_,_,_,k,x,h=>by rw[Tree.Bz] at h; cases h
 | .node v l r,m,o,⟨h1,h2,h3⟩,k,x,h=>by
  rw[Tree.Gb] at h
  split at h
  ·rename_i e
   subst e
   rw[h] at h1
   have h2:p o x:=h1
   simpa using h2
  ·rename_i e
   split at h
   ·rename_i e2
    have:=h2.get _ _ h
    have e3:o+m+2 * m * (k / 2)=o+m * k:=by
     have:k=2 * (k / 2)+1:=by omega
     conv=>rhs; rw[this]
     rw[Nat.mul_add,←Nat.mul_assoc,Nat.mul_comm m 2]
     omega
    rwa [e3] at this
   ·rename_i e2
    have:=h3.get _ _ h
    have e3:o+2 * m+2 * m * (k / 2 - 1)=o+m * k:=by
     obtain⟨q,hq⟩:∃ q,k=2 * q+2:=⟨k / 2 - 1,by omega⟩
     have hq2:k / 2 - 1=q:=by omega
     rw[hq2,hq,Nat.mul_add,←Nat.mul_assoc,Nat.mul_comm m 2]
     omega
    rwa [e3] at this
def Tree.Zob {α:Type} (p:Nat→α→Bool) (t:Tree α):Nat→Nat→Bool:=match t with
 | .nil=>fun _ _=>true
 | .node v l r=>fun m o=>(match v with|some x=>p o x|none=>true)&&l.Zob p (2 * m) (o+m)&&r.Zob p (2 * m) (o+2 * m)
theorem Tree.Zb5 {α:Type} {p:Nat→α→Bool}:∀ {t:Tree α} {m o:Nat},t.Zob p m o=true→t.Znw (fun i x=>p i x=true) m o
 | .nil,_,_,_=>trivial
 | .node v l r,m,o,h=>by
  unfold Tree.Zob at h
  rw[Bool.and_eq_true,Bool.and_eq_true] at h
  refine⟨?_,Tree.Zb5 h.1.2,Tree.Zb5 h.2⟩
  cases v with
  | none=>trivial
  | some x=>exact h.1.1
def Zr9 (ti:TI):Option TypeInfo→Bool
 | some i=>Nat.beq i.size ti.size&&Nat.beq i.bytes ti.bytes&&(match i.zero with
  | some z=>(match Zee z with
   | some u=>eqV u (.w ti.zero)
   | none=>false)
  | none=>false)
 | none=>false
def Zds (P:Program):List Field→Bool
 | []=>true
 | f :: l=>(P.info? f.type).isSome&&Zds P l
def Zgb (P:Program):TypeDesc→Bool
 | .slice e=>(P.info? e).isSome
 | .struct fs=>Zds P fs.toList
 | _=>true
def Z6s (P:Program) (t:Nat) (ti:TI):Bool :=
 Zr9 ti (P.info? t)&&(ti.agg == ti.desc.isRow)&&Nat.beq ti.zero.cells.length ti.size&&Zgb P ti.desc&&(!ti.plain || (!P.stoodInHeld t&&!P.eqGuardType P.depth t))
def Ztn (_:Nat) (fn:Func):Bool:=!(fn.name == "runtime.NumGoroutine")
theorem Zcn {P:Program}:∀ {l:List Field},Zds P l=true→∀ f∈l,∃ i,P.info? f.type=some i
 | [],_,f,hf=>by cases hf
 | g :: l,h,f,hf=>by
  unfold Zds at h
  rw[Bool.and_eq_true] at h
  rcases List.mem_cons.1 hf with rfl|hf
  ·exact Option.isSome_iff_exists.1 h.1
  ·exact Zcn h.2 f hf
theorem Z57 {K:Cfg} {P:Program} (hm:P.follows .mixedOrders=true) (hf:K.funcs.Znw (fun i fn=>P.funcs[i]? = some fn) 1 0) (hn:K.funcs.Zob Ztn 1 0=true)
  (hu:K.types.Znw (fun i ti=>P.underlying i=some ti.desc) 1 0) (ht:K.types.Zob (Z6s P) 1 0=true):Fits K P:=by
 have ht':∀ t ti,K.types.get t=some ti→Z6s P t ti=true:=fun t ti h=>by
  have:=(Tree.Zb5 ht).get t ti h
  simpa using this
 have ht2:∀ t ti,K.types.get t=some ti→Zr9 ti (P.info? t)=true∧ti.agg=ti.desc.isRow∧ti.zero.cells.length=ti.size∧Zgb P ti.desc=true∧(ti.plain=true→P.stoodInHeld t=false∧P.eqGuardType P.depth t=false):=fun t ti h=>by
  have:=ht' t ti h
  unfold Z6s at this
  simp only[Bool.and_eq_true,Bool.or_eq_true,beq_iff_eq,Bool.not_eq_true'] at this
  obtain⟨⟨⟨⟨h1,h2⟩,h3⟩,h4⟩,h5⟩:=this
  refine⟨h1,h2,Nat.eq_of_beq_eq_true h3,h4,fun hp=>?_⟩
  rcases h5 with h5|h5
  ·rw[hp] at h5; cases h5
  ·exact h5
 refine⟨fun f fn h=>?_,fun f fn h e=>?_,hm,fun t ti h=>?_,fun t ti h=>?_,fun t ti h=>(ht2 t ti h).2.1,fun t ti h=>(ht2 t ti h).2.2.1,fun t ti el h e=>?_,fun t ti fs h e=>?_,fun t ti h=>(ht2 t ti h).2.2.2.2⟩
 ·have:=hf.get f fn h
  simpa using this
 ·have:=(Tree.Zb5 hn).get f fn h
  unfold Ztn at this
  rw[e] at this
  simp at this
 ·have:=hu.get t ti h
  simpa using this
 ·have h1:=(ht2 t ti h).1
  unfold Zr9 at h1
  split at h1
  ·rename_i i hi
   simp only[Bool.and_eq_true] at h1
   obtain⟨⟨a,b⟩,c⟩:=h1
   split at c
   ·rename_i z hz
    split at c
    ·rename_i u hu
     have e:=Z31 c
     subst e
     exact⟨i,hi,Nat.eq_of_beq_eq_true a,Nat.eq_of_beq_eq_true b,z,hz,fun ρ=>Zo1 ρ hu⟩
    ·cases c
   ·cases c
  ·cases h1
 ·have h4:=(ht2 t ti h).2.2.2.1
  rw[e] at h4
  exact Option.isSome_iff_exists.1 h4
 ·have h4:=(ht2 t ti h).2.2.2.1
  rw[e] at h4
  exact Zcn h4
end Go.Ev
/- From the evaluator's word to a call: where crc's table is the one package-level variable. -/
namespace Go.Ev
open Go.RowKit
def isTrue:Option Out→Bool
 | some (.val (.w (.c (.bool true))) _)=>true
 | _=>false
theorem Zo5 {o:Option Out} (h:isTrue o=true):∃ h',o=some (.val (.w (.c (.bool true))) h'):=by
 unfold isTrue at h
 split at h
 ·exact⟨_,rfl⟩
 ·cases h
def steps16:List Int:=[0,498536548,997073096,651767980,1994146192,1802195444,1303535960,1342533948,3988292384,4027552580,3604390888,3412177804,2607071920,2262029012,2685067896,3183342108]
def Rj:H:=⟨Tree.node (some (.row 16 [[.int .u32 0,.int .u32 498536548,.int .u32 997073096,.int .u32 651767980,.int .u32 1994146192,.int .u32 1802195444,.int .u32 1303535960,.int .u32 1342533948,.int .u32 3988292384,.int .u32 4027552580,.int .u32 3604390888,.int .u32 3412177804,.int .u32 2607071920,.int .u32 2262029012,.int .u32 2685067896,.int .u32 3183342108]] true)) .nil .nil,1⟩
def Tn (G:Nat):Ren:=fun n=>if n=0 then some ⟨G,0,16⟩ else none
theorem Vj {K:Cfg} {G:Nat} (hg:K.globs=Tree.set .nil G 0) {g n:Nat} (h:K.globs.get g=some n):g=G∧n=0:=by
 rw[hg,Tree.X9] at h
 split at h
 ·rename_i e
  cases h
  exact⟨e,rfl⟩
 ·rw[Tree.Bz] at h; cases h
theorem Zje {K:Cfg} {G:Nat} (hg:K.globs=Tree.set .nil G 0):K.globs.get G=some 0:=by rw[hg,Tree.X9,if_pos rfl]
theorem Er {n:Nat} {o:O} (h:Rj.get n=some o):n=0∧o=.row 16 [steps16.map (.int .u32)] true:=by
 have h':(Tree.node (some (O.row 16 [steps16.map (.int .u32)] true)) .nil .nil).get n=some o:=h
 rw[Tree.Gb] at h'
 split at h'
 ·rename_i e
  cases h'
  exact⟨e,rfl⟩
 ·split at h'<;>(rw[Tree.Bz] at h'; cases h')
section
variable {K:Cfg} {P:Program} {W:World} {G:Nat}
theorem Zd3 (hg:K.globs=Tree.set .nil G 0) {cs:Array Value} {t:TypeId} {fr:Nat × Nat} (hb:W.heap[G]? = some (.cells cs t fr)) (hcs:cs.toList=steps16.map (Value.int .u32)):Rep K (Tn G) Rj W:=by
 refine⟨fun g n h=>?_,fun n o h=>?_,fun n n' o o' l l' hne h h' _ _=>?_⟩
 ·obtain⟨rfl,rfl⟩:=Vj hg h
  exact⟨16,rfl⟩
 ·obtain⟨rfl,rfl⟩:=Er h
  refine⟨⟨G,0,16⟩,rfl,cs,t,fr,hb,?_,fun h=>(by cases h),fun x hx=>?_,fun k c hc=>?_⟩
  ·rw[←Array.length_toList,hcs]
   rfl
  ·simp only[List.mem_singleton] at hx
   subst hx
   rfl
  ·unfold read1 at hc
   have hk:k / 16=0:=by
    rcases Nat.eq_zero_or_pos (k / 16) with e|e
    ·exact e
    ·obtain⟨q,hq⟩:∃ q,k / 16=q+1:=⟨k / 16 - 1,by omega⟩
     rw[hq] at hc
     simp at hc
   have hk2:k % 16=k:=by omega
   rw[hk,hk2] at hc
   simp only[List.getElem?_cons_zero,List.getElem?_map] at hc
   cases he:steps16[k]? with
   | none=>rw[he] at hc; cases hc
   | some z =>
    rw[he] at hc
    cases hc
    refine⟨.int .u32 z,?_,rfl⟩
    simp only[Nat.zero_add]
    rw[←Array.getElem?_toList,hcs,List.getElem?_map,he]
    rfl
 ·obtain⟨rfl,_⟩:=Er h
  obtain⟨rfl,_⟩:=Er h'
  exact absurd rfl hne
theorem Z66 {H:Type} {enc:TypeId × Value→H} {base:Nat} {spare:Nat→Bool} {held:Bool} {fuel:Nat} {t e:TypeId} {n:Nat} {k:IntKind} {cs:List Value} {zs:List Int} {p:List MemPlace} (ht:P.underlying t=some (.array n e)) (he:P.underlying e=some (.int k)) (hc:P.cellsOf e=1) (hct:P.cellsOf t=n)
  (h:DataW.trod enc P W base spare held fuel t cs=some (.agg (zs.map fun z=>.lit (.int k z)),p)):cs=zs.map (Value.int k):=by
 obtain⟨xs,m,rfl,hx,hlen,hn,hel⟩:=DataW.trod_array ht h
 simp only[Prod.mk.injEq,DataW.agg.injEq] at hx
 have hzl:zs.length=n:=by
  have:=congrArg List.length hx.1
  simp at this
  omega
 apply List.ext_getElem?
 intro i
 rw[List.getElem?_map]
 by_cases hi:i<n
 ·have h1:=hel i hi
  rw[hc,Nat.mul_one] at h1
  have hix:i<xs.length:=by omega
  rw[List.getElem?_eq_getElem hix] at h1
  obtain⟨z,e1,e2,_⟩:=DataW.trod_int he h1
  have hcs:cs[i]? = some (.int k z):=by
   have:=congrArg (fun l:List Value=>l[0]?) e1
   simpa [List.getElem?_take,List.getElem?_drop] using this
  have hz:zs[i]? = some z:=by
   have:=congrArg (fun l:List (DataW H)=>l[i]?) hx.1
   simp only[List.getElem?_map,List.getElem?_eq_getElem hix,Option.map_some,e2] at this
   cases hz:zs[i]? with
   | none=>rw[hz] at this; cases this
   | some y =>
    rw[hz] at this
    simp at this
    rw[this]
  rw[hcs,hz]
  rfl
 ·rw[List.getElem?_eq_none (by omega),List.getElem?_eq_none (by omega)]
  rfl
theorem Zf2 {nm:String} {t e:TypeId} (hg:P.globalNamed nm=some G) (hgt:(P.globals[G]?).map (·.type)=some t) (ht:P.underlying t=some (.array 16 e)) (he:P.underlying e=some (.int .u32)) (hc:P.cellsOf e=1) (hct:P.cellsOf t=16)
  (h:laidMetH P [(nm,.agg (steps16.map fun z=>.lit (.int .u32 z)))] W):∃ cs t fr,W.heap[G]? = some (.cells cs t fr)∧cs.toList=steps16.map (Value.int .u32):=by
 rw[MakeChecks.laidMetH_plain _ _ _ rfl] at h
 obtain⟨ps,⟨g0,t0,cs0,f0,p0,q0,hg0,ht0,hv0,hd0,_,_⟩,_,_⟩:=h
 obtain rfl:=Option.some.inj (hg.symm.trans hg0)
 obtain rfl:=Option.some.inj (hgt.symm.trans ht0)
 have e1:=Z66 ht he hc hct hd0
 simp only[World.var?,hg,Option.bind_some] at hv0
 split at hv0
 ·rename_i cs t' fr hb
  cases hv0
  exact⟨_,_,_,hb,e1⟩
 ·cases hv0
end
end Go.Ev
/- The evaluator with functions that are known by contract. -/
namespace Go.Ev
open Go.RowKit
abbrev Kn:=FuncId→List W→H→Option (V × H)
noncomputable section
def Z69 (K:Cfg) (X:Kn) (ev:Task→Option Out) (t:Task):Option Out :=
 Task.rec (motive:=fun _=>Option Out)
  (fun f args h=>Option.rec (Eb K ev f args h) (fun p=>Prod.rec (fun v h'=>some (.val v h')) p) (X f args h))
  (fun c n rd ds ts h=>Zh3 K ev c n rd ds ts h) t
def evX (K:Cfg) (X:Kn) (f:Nat):Task→Option Out :=
 Nat.rec (motive:=fun _=>Task→Option Out) (fun _=>none) (fun _ ih=>Z69 K X ih) f
end
def Zy (K:Cfg) (P:Program) (f:FuncId) (args:List W) (h:H) (v:V) (h':H):Prop :=
 Ga P f∧∀ ρ w vals r m,Rep K ρ h w→Dom ρ h.next→Yr (Ju ρ) args vals→CallsIn (Wd r) m P f vals.toArray w (Qe K ρ h w v h')
def Zev (K:Cfg) (P:Program) (X:Kn):Prop:=∀ f args h v h',X f args h=some (v,h')→Zy K P f args h v h'
section
variable {K:Cfg} {P:Program} {E:Task→Option Out} {X:Kn}
theorem Zq4 (F:Fits K P) (Hh:Hearts K P) (hX:Zev K P X) (S:Sound K P E):Sound K P (Z69 K X E):=by
 have T:=Le F Hh S (Q7 F S)
 refine⟨fun f args h v h' hv=>?_,fun c n rd ds ts h x ds' ts' h' hv=>T.code c n rd ds ts h x ds' ts' h' hv,fun t o hv=>?_⟩
 ·cases hx:X f args h with
  | none =>
   have hv':(Option.rec (Eb K E f args h) (fun p=>Prod.rec (fun v h'=>some (.val v h')) p) (X f args h):Option Out)=some (.val v h'):=hv
   rw[hx] at hv'
   exact T.call f args h v h' hv'
  | some p =>
   obtain⟨v1,h1⟩:=p
   have hv':(Option.rec (Eb K E f args h) (fun p=>Prod.rec (fun v h'=>some (.val v h')) p) (X f args h):Option Out)=some (.val v h'):=hv
   rw[hx] at hv'
   cases hv'
   exact hX f args h v h' hx
 ·cases t with
  | call f args h =>
   cases hx:X f args h with
   | none =>
    have hv':(Option.rec (Eb K E f args h) (fun p=>Prod.rec (fun v h'=>some (.val v h')) p) (X f args h):Option Out)=some o:=hv
    rw[hx] at hv'
    exact T.shape (.call f args h) o hv'
   | some p =>
    obtain⟨v1,h1⟩:=p
    have hv':(Option.rec (Eb K E f args h) (fun p=>Prod.rec (fun v h'=>some (.val v h')) p) (X f args h):Option Out)=some o:=hv
    rw[hx] at hv'
    cases hv'
    exact .inl ⟨_,_,_,_,_,rfl,rfl⟩
  | code c n rd ds ts h=>exact T.shape (.code c n rd ds ts h) o hv
theorem Nz (F:Fits K P) (Hh:Hearts K P) (hX:Zev K P X) (n:Nat):Sound K P (evX K X n):=by
 induction n with
 | zero=>exact⟨fun _ _ _ _ _ h=>(by cases h),fun _ _ _ _ _ _ _ _ _ _ h=>(by cases h),fun _ _ h=>(by cases h)⟩
 | succ n ih=>exact Zq4 F Hh hX ih
theorem Ze9 (F:Fits K P) (Hh:Hearts K P) (hX:Zev K P X) {G:Nat} (hg:K.globs=Tree.set .nil G 0) {W:World} {cs:Array Value} {t:TypeId} {fr:Nat × Nat} (hb:W.heap[G]? = some (.cells cs t fr)) (hcs:cs.toList=steps16.map (Value.int .u32))
  {f:FuncId} {args:List Ev.W} {n:Nat} (ht:isTrue (evX K X n (.call f args Rj))=true) {vals:List Value} (ha:Yr (Ju (Tn G)) args vals) :
  Calls P f vals.toArray W fun e W'=>e=.returned (.bool true)∧Below W.heap.size W W':=by
 obtain⟨h',he⟩:=Zo5 ht
 have hd:Dom (Tn G) Rj.next:=fun n hn=>by
  have:n≠0:=by have:1≤n:=hn; omega
  simp [Tn,this]
 have:=((Nz F Hh hX n).call f args Rj _ h' he).2 (Tn G) W vals none 0 (Zd3 hg hb hcs) hd ha
 refine (callsIn_wide.1 (show CallsIn Fence.wide 0 P f vals.toArray W _ from this)).mono ?_
 rintro e W' ⟨ρ',val,rfl,aft,hv⟩
 have e:val=.bool true:=hv
 subst e
 refine⟨rfl,aft.fr.os,aft.fr.tape,aft.fr.output,aft.fr.size,fun k hk=>aft.fr.keep k hk ?_⟩
 rintro⟨m,o,l,ho,hro,_⟩
 obtain⟨rfl,rfl⟩:=Er ho
 cases hro
end
end Go.Ev
/- One task at a time: what code comes to, piece by piece. -/
namespace Go.Ev
open Go.RowKit
def Yi (K:Cfg) (P:Program) (n:Nat) (rd:Option Nat) (c:Code) (ds:List Nat) (ts:Zx) (h:H) (x:X) (ds':List Nat) (ts':Zx) (h':H):Prop :=
 ∀ D ρ w a r m,Rep K ρ h w→Dom ρ h.next→Gu ρ n ts a.tmps→Marks ρ D ds a.defers→RdR ρ rd r→c.wpIn (Wd r) m P (Zbe K D ρ h w n x ds' ts' h') a w
section
variable {K:Cfg} {P:Program} {E:Task→Option Out} {X:Kn} {n:Nat} {rd:Option Nat} {ds ds1 ds2:List Nat} {ts ts1 ts2:Zx} {h h1 h2:H} {x:Ev.X} {b c:Code}
theorem Yi.ev (F:Fits K P) (Hh:Hearts K P) (hX:Zev K P X) {k:Nat} (e:evX K X k (.code c n rd ds ts h)=some (.at x ds1 ts1 h1)):Yi K P n rd c ds ts h x ds1 ts1 h1 :=
 (Nz F Hh hX k).code c n rd ds ts h x ds1 ts1 h1 e
theorem Yi.seq (a1:Yi K P n rd b ds ts h .normal ds1 ts1 h1) (a2:Yi K P n rd c ds1 ts1 h1 x ds2 ts2 h2):Yi K P n rd (.seq b c) ds ts h x ds2 ts2 h2:=by
 intro D ρ w a r m hr hd ht hm hrd
 refine wpIn_seq (wpIn_mono (a1 D ρ w a r m hr hd ht hm hrd) ?_)
 rintro e a1 w1 ⟨rfl,ρ1,aft1,tr1,mk1⟩
 show c.wpIn (Wd r) m P _ a1 w1
 refine wpIn_mono (a2 D ρ1 w1 a1 r m aft1.rep (aft1.dom hd) tr1 mk1 (hrd.mono aft1.le)) ?_
 rintro e a2 w2 ⟨rfl,ρ2,aft2,tr2,mk2⟩
 exact⟨rfl,ρ2,aft1.trans aft2,tr2,mk2⟩
theorem Yi.Zuw (hx:x≠.normal) (a1:Yi K P n rd b ds ts h x ds1 ts1 h1):Yi K P n rd (.seq b c) ds ts h x ds1 ts1 h1:=by
 intro D ρ w a r m hr hd ht hm hrd
 refine wpIn_seq (wpIn_mono (a1 D ρ w a r m hr hd ht hm hrd) ?_)
 rintro e a1 w1 ⟨rfl,rest⟩
 cases x with
 | normal=>exact absurd rfl hx
 | exit id=>exact⟨rfl,rest⟩
 | ret=>exact⟨rfl,rest⟩
theorem Yi.cond_true {o:Operand} (hc:Z6 K ts o=some (.bool true)) (a1:Yi K P n rd b ds ts h x ds1 ts1 h1):Yi K P n rd (.cond o b c) ds ts h x ds1 ts1 h1 :=
 fun D ρ w a r m hr hd ht hm hrd=>wpIn_cond_true ((Rm hr ht).c hc) (a1 D ρ w a r m hr hd ht hm hrd)
theorem Yi.cond_false {o:Operand} (hc:Z6 K ts o=some (.bool false)) (a1:Yi K P n rd c ds ts h x ds1 ts1 h1):Yi K P n rd (.cond o b c) ds ts h x ds1 ts1 h1 :=
 fun D ρ w a r m hr hd ht hm hrd=>wpIn_cond_false ((Rm hr ht).c hc) (a1 D ρ w a r m hr hd ht hm hrd)
theorem Yi.scope (a1:Yi K P n rd b ds ts h x ds1 ts1 h1):Yi K P n rd (.scope b) ds ts h x ds1 ts1 h1:=by
 intro D ρ w a r m hr hd ht hm hrd
 refine Zhm (fun l a w=>?_) (a1 D ρ w a r m hr hd ht hm hrd)
 rintro⟨e,_⟩
 cases x<;>cases e
theorem Yi.label {l:Nat}:Yi K P n rd (.label l) ds ts h .normal ds ts h :=
 fun D ρ w a r m hr hd ht hm hrd=>wpIn_label ⟨rfl,ρ,Aft.refl hr,ht,hm⟩
theorem Yi.skip:Yi K P n rd .skip ds ts h .normal ds ts h :=
 fun D ρ w a r m hr hd ht hm hrd=>wpIn_skip ⟨rfl,ρ,Aft.refl hr,ht,hm⟩
theorem Yi.exit {id:Nat}:Yi K P n rd (.exit id) ds ts h (.exit id) ds ts h :=
 fun D ρ w a r m hr hd ht hm hrd=>wpIn_exit ⟨rfl,ρ,Aft.refl hr,ht,hm⟩
theorem Yi.ret:Yi K P n rd .ret ds ts h .ret ds ts h :=
 fun D ρ w a r m hr hd ht hm hrd=>wpIn_ret ⟨rfl,ρ,Aft.refl hr,ht,hm⟩
theorem Yi.block {id:Nat} (a1:Yi K P n rd b ds ts h .normal ds1 ts1 h1):Yi K P n rd (.block id b) ds ts h .normal ds1 ts1 h1:=by
 intro D ρ w a r m hr hd ht hm hrd
 refine wpIn_block (wpIn_mono (a1 D ρ w a r m hr hd ht hm hrd) ?_)
 rintro e a1 w1 ⟨rfl,rest⟩
 exact⟨rfl,rest⟩
theorem Yi.Zkf {id:Nat} (a1:Yi K P n rd b ds ts h .ret ds1 ts1 h1):Yi K P n rd (.block id b) ds ts h .ret ds1 ts1 h1:=by
 intro D ρ w a r m hr hd ht hm hrd
 refine wpIn_block (wpIn_mono (a1 D ρ w a r m hr hd ht hm hrd) ?_)
 rintro e a1 w1 ⟨rfl,rest⟩
 exact⟨rfl,rest⟩
theorem Yi.Zgw {id:Nat} (a1:Yi K P n rd b ds ts h (.exit id) ds1 ts1 h1):Yi K P n rd (.block id b) ds ts h .normal ds1 ts1 h1:=by
 intro D ρ w a r m hr hd ht hm hrd
 refine wpIn_block (wpIn_mono (a1 D ρ w a r m hr hd ht hm hrd) ?_)
 rintro e a1 w1 ⟨rfl,rest⟩
 show Exit.inBlock id _ (.exit id) a1 w1
 simp only[Exit.inBlock,if_true]
 exact⟨rfl,rest⟩
theorem Zbe.ends {D:List Deferred} {ρ:Ren} {w:World} {e:Exit} {a:Act} {w':World} (hp:Zbe K D ρ h w n x ds1 ts1 h1 e a w'):e=.normal∨(∃ id,e=.exit id)∨e=.ret:=by
 obtain⟨rfl,_⟩:=hp
 cases x with
 | normal=>exact .inl rfl
 | exit id=>exact .inr (.inl ⟨id,rfl⟩)
 | ret=>exact .inr (.inr rfl)
theorem Yi.loop (a1:Yi K P n rd b ds ts h .normal ds1 ts1 h1) (a2:Yi K P n rd (.loop b) ds1 ts1 h1 x ds2 ts2 h2):Yi K P n rd (.loop b) ds ts h x ds2 ts2 h2:=by
 intro D ρ w a r m hr hd ht hm hrd
 refine Tg (fun _ _ _ hp=>Zbe.ends hp) (wpIn_mono (a1 D ρ w a r m hr hd ht hm hrd) ?_)
 rintro e a1 w1 ⟨rfl,ρ1,aft1,tr1,mk1⟩
 show (Code.loop b).wpIn (Wd r) m P _ a1 w1
 refine wpIn_mono (a2 D ρ1 w1 a1 r m aft1.rep (aft1.dom hd) tr1 mk1 (hrd.mono aft1.le)) ?_
 rintro e a2 w2 ⟨rfl,ρ2,aft2,tr2,mk2⟩
 exact⟨rfl,ρ2,aft1.trans aft2,tr2,mk2⟩
theorem Yi.Zpb (hx:x≠.normal) (a1:Yi K P n rd b ds ts h x ds1 ts1 h1):Yi K P n rd (.loop b) ds ts h x ds1 ts1 h1:=by
 intro D ρ w a r m hr hd ht hm hrd
 refine Tg (fun _ _ _ hp=>Zbe.ends hp) (wpIn_mono (a1 D ρ w a r m hr hd ht hm hrd) ?_)
 rintro e a1 w1 ⟨rfl,rest⟩
 cases x with
 | normal=>exact absurd rfl hx
 | exit id=>exact⟨rfl,rest⟩
 | ret=>exact⟨rfl,rest⟩
theorem Zy.body (F:Fits K P) (Hh:Hearts K P) {f:FuncId} {fn:Func} {body:Code} {args:List W} {v:V} (hc:K.clones.contains f=false) (hs:K.sorted.lookup f=none) (hf:K.funcs.get f=some fn) (hb:fn.body=some body) (hn:Nat.ble args.length fn.ntmps=true)
  (hbody:Yi K P fn.ntmps none body [] (Om 0 args .nil) h x ds1 ts1 h1) (hl:leave K fn (some (.at x ds1 ts1 h1))=some (.val v h2)):Zy K P f args h v h2:=by
 classical
 let E:Task→Option Out:=fun t=>if t=.code body fn.ntmps none [] (Om 0 args .nil) h then some (.at x ds1 ts1 h1) else none
 have S:Sound K P E:=by
  refine⟨fun f args h v h' he=>?_,fun c n rd ds ts h x ds' ts' h' he=>?_,fun t o he=>?_⟩
  ·simp only[E] at he
   rw[if_neg (by intro e; cases e)] at he
   cases he
  ·simp only[E] at he
   split at he
   ·rename_i e
    cases e
    cases he
    exact hbody
   ·cases he
  ·simp only[E] at he
   split at he
   ·rename_i e
    cases e
    cases he
    exact .inr ⟨_,_,_,_,_,_,_,_,_,_,rfl,rfl⟩
   ·cases he
 have T:=Le F Hh S (Q7 F S)
 refine T.call f args h v h2 ?_
 show Eb K E f args h=_
 unfold Eb
 rw[hc,hs]
 show enter K E args h (K.funcs.get f)=_
 rw[hf]
 unfold enter
 simp only[hb,hn,cond_true,E,if_true]
 exact hl
end
end Go.Ev
/- Slots as a full tree; memory that loses objects. -/
namespace Go.Ev
open Go.RowKit
section
variable {K:Cfg} {P:Program} {n:Nat} {rd:Option Nat} {ds ds1:List Nat} {ts ts' ts1 ts2:Zx} {h h1 h2:H} {x:Ev.X} {c:Code}
theorem Yi.congr (e:∀ i,Zh ts i=Zh ts' i) (a1:Yi K P n rd c ds ts h x ds1 ts1 h1):Yi K P n rd c ds ts' h x ds1 ts1 h1 :=
 fun D ρ w a r m hr hd ht hm hrd=>a1 D ρ w a r m hr hd ⟨ht.1,fun i=>by rw[e i]; exact ht.2 i⟩ hm hrd
theorem Rep.weak {ρ:Ren} {w:World} (hw:∀ n o,h2.get n=some o→h1.get n=some o) (hr:Rep K ρ h1 w):Rep K ρ h2 w :=
 ⟨hr.glob,fun n o e=>hr.obj n o (hw n o e),fun n n' o o' l l' hne e e'=>hr.inj n n' o o' l l' hne (hw n o e) (hw n' o' e')⟩
end
end Go.Ev
/- Laws by which the evaluator is run on slots that are not all known. -/
namespace Go.Ev
open Go.RowKit
section
variable {K:Cfg} {X:Kn} {E:Task→Option Out} {n k:Nat} {rd:Option Nat} {ds:List Nat} {ts:Zx} {h:H} {all:List Oper}
theorem Zpd (d:Option Tmp) (op:Op) (t:TypeId) (p:String) (a:Array Edge):Zb7 K E all n ts h ⟨d,op,t,p,a,none⟩=We n ts d (Ug K E ts h op):=rfl
theorem Yw (d:Tmp) (v:V) (hd:Nat.blt d n=true):We n ts (some d) (some (v,h))=some (ts.set d v,h):=by
 unfold We Sg
 simp only[hd,cond_true]
theorem Zr7 (v:V):We n ts none (some (v,h))=some (ts,h):=rfl
theorem Z2u (x:Operand):Ug K E ts h (.move x)=Si h (Gw K ts x):=rfl
theorem Zrw (x:Operand):Ug K E ts h (.assign x)=Si h (Gw K ts x):=rfl
theorem Zx8 (op:BinOp) (t:TypeId) (x y:Operand) (u:TypeId):Ug K E ts h (.binOp op t x y u)=O7 h (binop K op t (evalW K ts x) (evalW K ts y)):=rfl
theorem Z04 (op:UnOp) (t:TypeId) (x:Operand):Ug K E ts h (.unOp op t x)=O7 h (Zon op (Z6 K ts x)):=rfl
theorem Zqa (s t:TypeId) (x:Operand):Ug K E ts h (.convert s t x)=Zgt K h (Nat.beq s t) (K.types.get s) (Z6 K ts x) (Zgj K h (K.types.get s) (K.types.get t) (Z6 K ts x) (Bi h (K.types.get s) (K.types.get t) (Z6 K ts x))):=rfl
theorem Zqy (b:Bool) (s:Option TI) (c:Option C) (r:V × H):Zgt K h b s c (some r)=some r:=rfl
theorem Zp2 (b:Bool) (s:Option TI) (c:Option C):Zgt K h b s c none=bif b then Oc K h s c else none:=rfl
theorem Zqd (s t:Option TI) (c:Option C) (r:V × H):Zgj K h s t c (some r)=some r:=rfl
theorem Zqb (s t:Option TI) (c:Option C):Zgj K h s t c none=Jm K h s t c:=rfl
theorem Z1r (t:TypeId) (x:Operand):Ug K E ts h (.load t x)=Zd2 K h t (Z6 K ts x):=rfl
theorem Zxa (t:TypeId) (x y:Operand):Ug K E ts h (.store t x y)=Q3 K h t (Z6 K ts x) (evalW K ts y):=rfl
theorem Zjx (t:TypeId) (x i:Operand):Ug K E ts h (.indexAddr t x i)=O7 h (Gx K (K.types.get t) (Z6 K ts x) (Ow (Z6 K ts i))):=rfl
theorem Zwo (t:TypeId) (x i:Operand):Ug K E ts h (.index t x i)=F7 h (Lu K (K.types.get t) (evalW K ts x) (Ow (Z6 K ts i))):=rfl
theorem Zod (b:Builtin) (args:Array Operand) (tys:Array TypeId):Ug K E ts h (.call ⟨.builtin b,args,tys⟩)=O3 K h b tys.toList (O6 K ts args.toList):=rfl
theorem Z4c (tys:List TypeId) (args:Option (List W)):O3 K h .len tys args=Zr K h .len tys args:=rfl
theorem Ztr (tys:List TypeId) (args:Option (List W)):O3 K h .append tys args=Zr K h .append tys args:=rfl
theorem Ztt (tys:List TypeId) (args:Option (List W)):O3 K h .delete tys args=Zr K h .delete tys args:=rfl
theorem Zww (tys:List TypeId) (args:Option (List W)):O3 K h .clear tys args=Zr K h .clear tys args:=rfl
theorem Z63 (tys:List TypeId) (args:Option (List W)):O3 K h .min tys args=Zr K h .min tys args:=rfl
theorem Z5t (tys:List TypeId) (args:Option (List W)):O3 K h .max tys args=Zr K h .max tys args:=rfl
theorem Z35 (tys:List TypeId) (args:Option (List W)):O3 K h .copy tys args=Zb4 K h tys args:=rfl
theorem Z0j (f:Operand) (args:Array Operand) (tys:Array TypeId):Ug K E ts h (.call ⟨.value f,args,tys⟩)=Zkc (Sa E h (O6 K ts args.toList) (Z6 K ts f)):=rfl
theorem Y2 (t:Tmp):Gw K ts (.tmp t)=some (Zh ts t):=rfl
theorem Zpg (v:Value):Gw K ts (.const v)=Zee v:=rfl
theorem Zrh (f:FuncId):Gw K ts (.func f)=some (.w (.c (.fn f [] []))):=rfl
end
end Go.Ev
/- Contracts in small memories, carried to great ones: names are renamed, the rest stays. -/
namespace Go.Ev
open Go.RowKit
def Z9k (σ:Nat→Nat):Option (Nat × Nat)→Option (Nat × Nat)
 | some (n,o)=>some (σ n,o)
 | none=>none
def C.ren (σ:Nat→Nat):C→C
 | .ptr n o=>.ptr (σ n) o
 | .slice n off len sz=>.slice (σ n) off len sz
 | .map n=>.map (σ n)
 | .fn f a b=>.fn f (a.map (Z9k σ)) (b.map (Z9k σ))
 | .yield l=>.yield (σ l)
 | .bool b=>.bool b
 | .int k n=>.int k n
 | .str s=>.str s
 | .pnil=>.pnil
 | .snil=>.snil
 | .mnil=>.mnil
 | .nilFn=>.nilFn
def W.ren (σ:Nat→Nat):W→W
 | .c x=>.c (x.ren σ)
 | .g l=>.g (l.map (C.ren σ))
def V.ren (σ:Nat→Nat):V→V
 | .w x=>.w (x.ren σ)
 | .tup l=>.tup (l.map (W.ren σ))
def Yai (σ:Nat→Nat) (p:W × W):W × W:=(p.1.ren σ,p.2.ren σ)
def O.ren (σ:Nat→Nat):O→O
 | .row sz els ro=>.row sz (els.map (List.map (C.ren σ))) ro
 | .map es=>.map (es.map (Yai σ))
 | o=>o
def O.simple:O→Bool
 | .row _ _ _=>true
 | .map _=>true
 | _=>false
section
variable {ρ:Ren} {σ:Nat→Nat}
theorem Rz {α β γ:Type} {R:β→γ→Prop} {f:α→β}:∀ {l:List α} {m:List γ},Yr R (l.map f) m ↔ Yr (fun a c=>R (f a) c) l m
 | [],[]=>Iff.rfl
 | [],_ :: _=>Iff.rfl
 | _ :: _,[]=>Iff.rfl
 | _ :: _,_ :: _=>and_congr Iff.rfl Rz
theorem Vo {α β:Type} {R R':α→β→Prop} (h:∀ a b,R a b ↔ R' a b) {l:List α} {m:List β}:Yr R l m ↔ Yr R' l m :=
 ⟨Yr.mono fun a b=>(h a b).1,Yr.mono fun a b=>(h a b).2⟩
theorem Zpj (p:Option (Nat × Nat)) (v:Value):Tu ρ (Z9k σ p) v ↔ Tu (fun n=>ρ (σ n)) p v:=by cases p<;>exact Iff.rfl
theorem Zgc (c:C) (v:Value):Con ρ (c.ren σ) v ↔ Con (fun n=>ρ (σ n)) c v:=by
 cases c with
 | fn f a b =>
  simp only[C.ren,Con]
  refine exists_congr fun x=>exists_congr fun y=>and_congr Iff.rfl (and_congr ?_ ?_)
  ·exact Rz.trans (Vo Zpj)
  ·exact Rz.trans (Vo Zpj)
 | _=>exact Iff.rfl
theorem Qp (x:W) (v:Value):Ju ρ (x.ren σ) v ↔ Ju (fun n=>ρ (σ n)) x v:=by
 cases x with
 | c x=>exact Zgc x v
 | g l=>exact exists_congr fun cs=>and_congr Iff.rfl (Rz.trans (Vo Zgc))
theorem Zo7 (x:V) (v:Value):O5 ρ (x.ren σ) v ↔ O5 (fun n=>ρ (σ n)) x v:=by
 cases x with
 | w x=>exact Qp x v
 | tup l=>exact exists_congr fun cs=>and_congr Iff.rfl (Rz.trans (Vo Qp))
theorem Zwx (sz:Nat) (els:List (List C)) (k:Nat):read1 sz (els.map (List.map (C.ren σ))) k=(read1 sz els k).map (C.ren σ):=by
 unfold read1
 rw[List.getElem?_map]
 cases els[k / sz]? with
 | none=>rfl
 | some e=>exact List.getElem?_map ..
theorem Wx {w:World} {o:O} (hs:o.simple=true) (l:Loc):Bn ρ w (o.ren σ) l ↔ Bn (fun n=>ρ (σ n)) w o l:=by
 cases o with
 | row sz els ro =>
  simp only[O.ren,Bn,Zwx]
  refine exists_congr fun cs=>exists_congr fun t=>exists_congr fun fr=>and_congr Iff.rfl (and_congr Iff.rfl (and_congr Iff.rfl (and_congr ?_ ?_)))
  ·simp
  ·constructor
   ·intro h k c hc
    obtain⟨v,h1,h2⟩:=h k (c.ren σ) (by rw[hc]; rfl)
    exact⟨v,h1,(Zgc c v).1 h2⟩
   ·intro h k c hc
    cases hr:read1 sz els k with
    | none=>rw[hr] at hc; cases hc
    | some c0 =>
     rw[hr] at hc
     cases hc
     obtain⟨v,h1,h2⟩:=h k c0 hr
     exact⟨v,h1,(Zgc c0 v).2 h2⟩
 | map es =>
  simp only[O.ren,Bn]
  refine exists_congr fun xs=>exists_congr fun cl=>and_congr Iff.rfl (and_congr ?_ Iff.rfl)
  exact Rz.trans (Vo fun p e=>and_congr (Qp _ _) (Qp _ _))
 | _=>cases hs
theorem Zh1 (o:O):(o.ren σ).ro=o.ro:=by cases o<;>rfl
end
section
variable {K:Cfg} {P:Program} {h0 h1 h h':H} {f:FuncId} {args:List W} {v:V} {σ:Nat→Nat}
structure Lies (K:Cfg) (σ:Nat→Nat) (h0 h:H):Prop where
 new:∀ n,h0.next≤n→σ n=h.next+(n - h0.next)
 old:∀ n,n<h0.next→σ n<h.next
 obj:∀ n o,h0.get n=some o→o.simple=true∧∃ o',h.get (σ n)=some o'∧(o'=o.ren σ∨∃ sz els,o=.row sz els true∧o'=(O.row sz els false).ren σ)
 inj:∀ n n' o o',h0.get n=some o→h0.get n'=some o'→n≠n'→σ n≠σ n'
 glob:∀ g n,K.globs.get g=some n→σ n=n
structure Lain (σ:Nat→Nat) (h0 h1 h h':H):Prop where
 next:h'.next=h.next+(h1.next - h0.next)
 obj:∀ m o',h'.get m=some o'→(h.get m=some o'∧∀ n o,h0.get n=some o→σ n=m→o.ro=true)∨∃ n o,h1.get n=some o∧o.ro=false∧o.simple=true∧σ n=m∧o'=o.ren σ
theorem Lies.rep {ρ:Ren} {w:World} (L:Lies K σ h0 h) (hr:Rep K ρ h w):Rep K (fun n=>ρ (σ n)) h0 w:=by
 refine⟨fun g n hg=>?_,fun n o ho=>?_,fun n n' o o' l l' hne ho ho' hl hl'=>?_⟩
 ·obtain⟨r,e⟩:=hr.glob g n hg
  exact⟨r,by rw[L.glob g n hg]; exact e⟩
 ·obtain⟨hs,o',ho',e⟩:=L.obj n o ho
  obtain⟨l,hl,hor⟩:=hr.obj _ o' ho'
  refine⟨l,hl,(Wx hs l).1 ?_⟩
  rcases e with rfl|⟨sz,els,rfl,rfl⟩
  ·exact hor
  ·obtain⟨cs,t,fr,e1,e2,_,e4⟩:=hor
   exact⟨cs,t,fr,e1,e2,(by intro h; cases h),e4⟩
 ·obtain⟨_,x,hx,e1⟩:=L.obj n o ho
  obtain⟨_,x',hx',e2⟩:=L.obj n' o' ho'
  have r1:∀ (o x:O),o.ro=false→(x=o.ren σ∨∃ sz els,o=.row sz els true∧x=(O.row sz els false).ren σ)→x.ro=false:=fun o x q e=>by
   rcases e with rfl|⟨_,_,rfl,_⟩
   ·rw[Zh1]; exact q
   ·cases q
  exact fun hq=>hr.inj (σ n) (σ n') x x' l l' (L.inj n n' o o' ho ho' hne) hx hx' hl hl' (hq.imp (fun q=>r1 _ _ q e1) (fun q=>r1 _ _ q e2))
theorem Zy.frame (C0:Zy K P f args h0 v h1) (L:Lies K σ h0 h) (B:Lain σ h0 h1 h h'):Zy K P f (args.map (W.ren σ)) h (v.ren σ) h':=by
 refine⟨C0.1,fun ρ w vals r m hr hd ha=>?_⟩
 have hd0:Dom (fun n=>ρ (σ n)) h0.next:=fun n hn=>by
  show ρ (σ n)=none
  rw[L.new n hn]
  exact hd _ (by omega)
 refine (C0.2 (fun n=>ρ (σ n)) w vals r m (L.rep hr) hd0 ((Vo Qp).1 (Rz.1 ha))).mono ?_
 rintro e w' ⟨ρ0,val,rfl,aft,hv⟩
 let ρ':Ren:=fun m=>if m<h.next then ρ m else ρ0 (h0.next+(m - h.next))
 have hρ:(fun n=>ρ' (σ n))=ρ0:=by
  funext n
  by_cases hn:n<h0.next
  ·have h1:=L.old n hn
   have e:ρ' (σ n)=ρ (σ n):=if_pos h1
   show ρ' (σ n)=ρ0 n
   rw[e]
   cases hx:ρ0 n with
   | none =>
    cases hy:ρ (σ n) with
    | none=>rfl
    | some l =>
     have:=aft.le n l hy
     rw[hx] at this
     cases this
   | some l =>
    rcases aft.new n l hx with hy|hy
    ·exact hy
    ·omega
  ·have e1:=L.new n (by omega)
   show ρ' (σ n)=ρ0 n
   have e:ρ' (σ n)=ρ0 (h0.next+(σ n - h.next)):=if_neg (by rw[e1]; omega)
   rw[e]
   congr 1
   omega
 have hle:Ren.le ρ ρ':=fun n l hl=>by
  have:n<h.next:=by
   rcases Nat.lt_or_ge n h.next with h1|h1
   ·exact h1
   ·rw[hd n h1] at hl; cases hl
  show (if n<h.next then ρ n else _)=some l
  rw[if_pos this]
  exact hl
 have hup:=aft.up
 have mine0:∀ k,Mine (fun n=>ρ (σ n)) h0 k→Mine ρ h k:=by
  rintro k ⟨n,o,l,ho,hro,hl,hk⟩
  obtain⟨_,o',ho',e⟩:=L.obj n o ho
  rcases e with rfl|⟨sz,els,rfl,rfl⟩
  ·exact⟨σ n,_,l,ho',by rw[Zh1]; exact hro,hl,hk⟩
  ·cases hro
 have away:∀ m o l,h.get m=some o→(∀ n o,h0.get n=some o→σ n=m→o.ro=true)→ρ m=some l→¬ Mine (fun n=>ρ (σ n)) h0 l.blk:=by
  rintro m o l ho hn hl ⟨n,o0,l0,ho0,hro,hl0,hk⟩
  by_cases e:σ n=m
  ·rw[hn n o0 ho0 e] at hro
   cases hro
  ·obtain⟨_,o',ho',e'⟩:=L.obj n o0 ho0
   have r1:o'.ro=false:=by
    rcases e' with rfl|⟨_,_,rfl,_⟩
    ·rw[Zh1]; exact hro
    ·cases hro
   exact hr.inj (σ n) m o' o l0 l e ho' ho hl0 hl (.inl r1) hk
 have mine1:∀ n o l,h1.get n=some o→o.ro=false→ρ' (σ n)=some l→Mine ρ0 h1 l.blk:=fun n o l ho hro hl=>⟨n,o,l,ho,hro,by rw[←hρ]; exact hl,rfl⟩
 refine⟨ρ',val,rfl,⟨hle,fun m l hm=>?_,⟨fun g n hg=>?_,fun m o ho=>?_,fun m m' o o' l l' hne ho ho' hl hl'=>?_⟩,⟨aft.fr.os,aft.fr.tape,aft.fr.output,aft.fr.size,fun k hk hn=>aft.fr.keep k hk (fun h=>hn (mine0 k h)),fun k hk=>?_,fun m o ho hro=>?_⟩,by rw[B.next]; omega⟩,?_⟩
 ·
  by_cases h1:m<h.next
  ·have:ρ' m=ρ m:=if_pos h1
   exact .inl (this ▸ hm)
  ·have e:ρ' m=ρ0 (h0.next+(m - h.next)):=if_neg h1
   rw[e] at hm
   rcases aft.new _ _ hm with hy|hy
   ·rw[hd0 _ (by omega)] at hy; cases hy
   ·right
    rw[B.next]
    omega
 ·obtain⟨r,e⟩:=hr.glob g n hg
  exact⟨r,hle _ _ e⟩
 ·rcases B.obj m o ho with ⟨ho1,hn⟩|⟨n,o0,ho1,hro,hs,rfl,rfl⟩
  ·obtain⟨l,hl,hor⟩:=hr.obj m o ho1
   refine⟨l,hle _ _ hl,(hor.congr ?_).mono hle⟩
   exact aft.fr.keep l.blk hor.lt (away m o l ho1 hn hl)
  ·obtain⟨l,hl,hor⟩:=aft.rep.obj n o0 ho1
   rw[←hρ] at hl hor
   exact⟨l,hl,(Wx hs l).2 hor⟩
 ·rcases B.obj m o ho with ⟨ho1,hn⟩|⟨n,o0,ho1,hro,hs,rfl,rfl⟩
  ·obtain⟨lm,hlm,hor⟩:=hr.obj m o ho1
   have e:=hle _ _ hlm
   rw[hl] at e
   cases e
   rcases B.obj m' o' ho' with ⟨ho2,hn'⟩|⟨n',o0',ho2,hro',hs',rfl,rfl⟩
   ·obtain⟨lm',hlm',hor'⟩:=hr.obj m' o' ho2
    have e:=hle _ _ hlm'
    rw[hl'] at e
    cases e
    exact hr.inj m m' o o' l l' hne ho1 ho2 hlm hlm'
   ·intro _ e
    rcases aft.fr.fresh l'.blk (mine1 n' o0' l' ho2 hro' hl') with h2|h2
    ·have:=hor.lt; omega
    ·exact away m o l ho1 hn hlm (e ▸ h2)
  ·rcases B.obj m' o' ho' with ⟨ho2,hn'⟩|⟨n',o0',ho2,hro',hs',rfl,rfl⟩
   ·obtain⟨lm',hlm',hor'⟩:=hr.obj m' o' ho2
    have e:=hle _ _ hlm'
    rw[hl'] at e
    cases e
    intro _ e
    rcases aft.fr.fresh l.blk (mine1 n o0 l ho1 hro hl) with h2|h2
    ·have:=hor'.lt; omega
    ·exact away m' o' l' ho2 hn' hlm' (e ▸ h2)
   ·refine fun _=>aft.rep.inj n n' o0 o0' l l' (fun e=>hne (by rw[e])) ho1 ho2 ?_ ?_ (.inl hro)
    ·rw[←hρ]; exact hl
    ·rw[←hρ]; exact hl'
 ·obtain⟨m,o,l,ho,hro,hl,hk⟩:=hk
  rcases B.obj m o ho with ⟨ho1,hn⟩|⟨n,o0,ho1,hro1,hs,rfl,rfl⟩
  ·obtain⟨lm,hlm,_⟩:=hr.obj m o ho1
   have e:=hle _ _ hlm
   rw[hl] at e
   cases e
   exact .inr ⟨m,o,l,ho1,hro,hlm,hk⟩
  ·have h2:=mine1 n o0 l ho1 hro1 hl
   rw[hk] at h2
   rcases aft.fr.fresh k h2 with h3|h3
   ·exact .inl h3
   ·exact .inr (mine0 k h3)
 ·rcases B.obj m o ho with ⟨ho1,_⟩|⟨n,o0,ho1,hro1,hs,rfl,rfl⟩
  ·exact ho1
  ·rw[Zh1,hro1] at hro; cases hro
 ·rw[Zo7,hρ]
  exact hv
end
end Go.Ev
/- Walking on the evaluator's level: what code comes to, with what is known of slots and memory. -/
namespace Go.Ev
open Go.RowKit
structure Goes (K:Cfg) (P:Program) (n:Nat) (rd:Option Nat) (c:Code) (ds:List Nat) (ts:Zx) (h:H) (Q:X→List Nat→Zx→H→Prop):Prop where
 ex:∃ x ds' ts' h',Yi K P n rd c ds ts h x ds' ts' h'∧Q x ds' ts' h'
def then2 (p:Option (Zx × H)) (Q:Zx→H→Prop):Prop:=match p with
 | some p=>Q p.1 p.2
 | none=>False
section
variable {K:Cfg} {P:Program} {n:Nat} {rd:Option Nat} {ds:List Nat} {ts:Zx} {h:H} {Q R:X→List Nat→Zx→H→Prop} {a b c:Code} {id:Nat}
theorem Goes.mono (g:Goes K P n rd c ds ts h Q) (hq:∀ x ds ts h,Q x ds ts h→R x ds ts h):Goes K P n rd c ds ts h R:=by
 obtain⟨x,ds',ts',h',g1,g2⟩:=g
 exact⟨x,ds',ts',h',g1,hq _ _ _ _ g2⟩
theorem Zk (g:Goes K P n rd a ds ts h fun x ds ts h=>match x with
  | .normal=>Goes K P n rd b ds ts h Q
  | x=>Q x ds ts h):Goes K P n rd (.seq a b) ds ts h Q:=by
 obtain⟨x,ds',ts',h',g1,g2⟩:=g
 cases x with
 | normal =>
  obtain⟨y,ds2,ts2,h2,g3,g4⟩:=g2
  exact⟨y,ds2,ts2,h2,Yi.seq g1 g3,g4⟩
 | exit id=>exact⟨_,_,_,_,Yi.Zuw (by intro e; cases e) g1,g2⟩
 | ret=>exact⟨_,_,_,_,Yi.Zuw (by intro e; cases e) g1,g2⟩
theorem Yt (g:Goes K P n rd b ds ts h fun x ds ts h=>match x with
  | .normal=>Q .normal ds ts h
  | .ret=>Q .ret ds ts h
  | .exit id'=>if id'=id then Q .normal ds ts h else False):Goes K P n rd (.block id b) ds ts h Q:=by
 obtain⟨x,ds',ts',h',g1,g2⟩:=g
 cases x with
 | normal=>exact⟨_,_,_,_,Yi.block g1,g2⟩
 | ret=>exact⟨_,_,_,_,Yi.Zkf g1,g2⟩
 | exit id' =>
  simp only at g2
  split at g2
  ·rename_i e
   subst e
   exact⟨_,_,_,_,Yi.Zgw g1,g2⟩
  ·exact g2.elim
theorem Je (g:Goes K P n rd b ds ts h fun x ds ts h=>match x with
  | .normal=>Goes K P n rd (.loop b) ds ts h Q
  | x=>Q x ds ts h):Goes K P n rd (.loop b) ds ts h Q:=by
 obtain⟨x,ds',ts',h',g1,g2⟩:=g
 cases x with
 | normal =>
  obtain⟨y,ds2,ts2,h2,g3,g4⟩:=g2
  exact⟨y,ds2,ts2,h2,Yi.loop g1 g3,g4⟩
 | exit id=>exact⟨_,_,_,_,Yi.Zpb (by intro e; cases e) g1,g2⟩
 | ret=>exact⟨_,_,_,_,Yi.Zpb (by intro e; cases e) g1,g2⟩
theorem Goes.cond {o:Operand} {v:Bool} (hc:Z6 K ts o=some (.bool v)) (g:if v=true then Goes K P n rd a ds ts h Q else Goes K P n rd b ds ts h Q):Goes K P n rd (.cond o a b) ds ts h Q:=by
 cases v with
 | true =>
  obtain⟨x,ds',ts',h',g1,g2⟩:=g
  exact⟨_,_,_,_,Yi.cond_true hc g1,g2⟩
 | false =>
  simp only[Bool.false_eq_true,if_false] at g
  obtain⟨x,ds',ts',h',g1,g2⟩:=g
  exact⟨_,_,_,_,Yi.cond_false hc g1,g2⟩
theorem Goes.Ybh {o:Operand} (hc:Z6 K ts o=some (.bool true)) (g:Goes K P n rd a ds ts h Q):Goes K P n rd (.cond o a b) ds ts h Q:=Goes.cond hc g
theorem Goes.Yag {o:Operand} (hc:Z6 K ts o=some (.bool false)) (g:Goes K P n rd b ds ts h Q):Goes K P n rd (.cond o a b) ds ts h Q:=Goes.cond hc g
theorem Goes.scope (g:Goes K P n rd b ds ts h Q):Goes K P n rd (.scope b) ds ts h Q:=by
 obtain⟨x,ds',ts',h',g1,g2⟩:=g
 exact⟨_,_,_,_,Yi.scope g1,g2⟩
theorem Goes.label {l:Nat} (q:Q .normal ds ts h):Goes K P n rd (.label l) ds ts h Q:=⟨_,_,_,_,Yi.label,q⟩
theorem Zw (q:Q .normal ds ts h):Goes K P n rd .skip ds ts h Q:=⟨_,_,_,_,Yi.skip,q⟩
theorem Ux (q:Q (.exit id) ds ts h):Goes K P n rd (.exit id) ds ts h Q:=⟨_,_,_,_,Yi.exit,q⟩
theorem Z0 (q:Q .ret ds ts h):Goes K P n rd .ret ds ts h Q:=⟨_,_,_,_,Yi.ret,q⟩
theorem Goes.ok {x:X} {ds':List Nat} {ts':Zx} {h':H} (g:Yi K P n rd c ds ts h x ds' ts' h') (q:Q x ds' ts' h'):Goes K P n rd c ds ts h Q:=⟨_,_,_,_,g,q⟩
theorem Goes.congr {ts':Zx} (e:∀ i,Zh ts i=Zh ts' i) (g:Goes K P n rd c ds ts h Q):Goes K P n rd c ds ts' h Q:=by
 obtain⟨x,ds',ts2,h',g1,g2⟩:=g
 exact⟨x,ds',ts2,h',Yi.congr e g1,g2⟩
def E0:Task→Option Out:=fun _=>none
theorem Za:Sound K P E0:=⟨fun _ _ _ _ _ h=>(by cases h),fun _ _ _ _ _ _ _ _ _ _ h=>(by cases h),fun _ _ h=>(by cases h)⟩
open Classical in
noncomputable def E1 (E:Task→Option Out) (f:FuncId) (args:List W) (h:H) (v:V) (h':H):Task→Option Out:=fun t=>if t=.call f args h then some (.val v h') else E t
theorem Zp {E:Task→Option Out} (S:Sound K P E) {f:FuncId} {args:List W} {v:V} {h':H} (c:Zy K P f args h v h'):Sound K P (E1 E f args h v h'):=by
 refine⟨fun g us k u k' he=>?_,fun c n rd ds ts h x ds' ts' h' he=>?_,fun t o he=>?_⟩
 ·simp only[E1] at he
  split at he
  ·rename_i e
   cases e
   cases he
   exact c
  ·exact S.call g us k u k' he
 ·simp only[E1] at he
  split at he
  ·rename_i e
   cases e
  ·exact S.code c n rd ds ts h x ds' ts' h' he
 ·simp only[E1] at he
  split at he
  ·rename_i e
   cases e
   cases he
   exact .inl ⟨_,_,_,_,_,rfl,rfl⟩
  ·exact S.shape t o he
theorem Ya (E:Task→Option Out) (f:FuncId) (args:List W) (h:H) (v:V) (h':H):E1 E f args h v h' (.call f args h)=some (.val v h'):=by simp [E1]
theorem Goes.ops (F:Fits K P) (Hh:Hearts K P) {E:Task→Option Out} (S:Sound K P E) {ops:Array Oper} (g:then2 (Nl K E ops.toList n ops.toList ts h) fun ts h=>Q .normal ds ts h):Goes K P n rd (.region id ops false) ds ts h Q:=by
 cases e:Nl K E ops.toList n ops.toList ts h with
 | none=>rw[e] at g; exact g.elim
 | some p =>
  obtain⟨ts',h'⟩:=p
  rw[e] at g
  have T:=Le F Hh S (Q7 F S)
  refine⟨.normal,ds,ts',h',T.code (.region id ops false) n rd ds ts h .normal ds ts' h' ?_,g⟩
  show Zhv ds (Nl K E ops.toList n ops.toList ts h)=_
  rw[e]
  rfl
theorem Goes.drawn (F:Fits K P) (Hh:Hearts K P) {E:Task→Option Out} (S:Sound K P E) {ops:Array Oper} (g:then2 (Xu K E ops.toList n ts h) fun ts h=>Q .normal ds ts h):Goes K P n rd (.region id ops true) ds ts h Q:=by
 cases e:Xu K E ops.toList n ts h with
 | none=>rw[e] at g; exact g.elim
 | some p =>
  obtain⟨ts',h'⟩:=p
  rw[e] at g
  have T:=Le F Hh S (Q7 F S)
  refine⟨.normal,ds,ts',h',T.code (.region id ops true) n rd ds ts h .normal ds ts' h' ?_,g⟩
  show Zhv ds (Xu K E ops.toList n ts h)=_
  rw[e]
  rfl
theorem Goes.ev (F:Fits K P) (Hh:Hearts K P) {Y:Kn} (hX:Zev K P Y) {k:Nat} {x:X} {ds':List Nat} {ts':Zx} {h':H} (e:evX K Y k (.code c n rd ds ts h)=some (.at x ds' ts' h')) (q:Q x ds' ts' h'):Goes K P n rd c ds ts h Q :=
 ⟨_,_,_,_,Yi.ev F Hh hX e,q⟩
theorem Zy.goes (F:Fits K P) (Hh:Hearts K P) {f:FuncId} {fn:Func} {body:Code} {args:List W} {v:V} {h':H} (hc:K.clones.contains f=false) (hs:K.sorted.lookup f=none) (hf:K.funcs.get f=some fn) (hb:fn.body=some body) (hn:Nat.ble args.length fn.ntmps=true)
  (g:Goes K P fn.ntmps none body [] (Om 0 args .nil) h fun x ds ts h1=>leave K fn (some (.at x ds ts h1))=some (.val v h')):Zy K P f args h v h':=by
 obtain⟨x,ds',ts',h1,g1,g2⟩:=g
 exact Zy.body F Hh hc hs hf hb hn g1 g2
theorem Zy.weak {f:FuncId} {args:List W} {v:V} {h1 h2:H} (c:Zy K P f args h v h1) (hn:h2.next=h1.next) (hw:∀ n o,h2.get n=some o→h1.get n=some o):Zy K P f args h v h2:=by
 refine⟨c.1,fun ρ w vals r m hr hd ha=>(c.2 ρ w vals r m hr hd ha).mono ?_⟩
 rintro e w' ⟨ρ',val,rfl,aft,hv⟩
 refine⟨ρ',val,rfl,⟨aft.le,by rw[hn]; exact aft.new,aft.rep.weak hw,⟨aft.fr.os,aft.fr.tape,aft.fr.output,aft.fr.size,aft.fr.keep,fun k hk=>?_,fun n o ho hro=>aft.fr.ro n o (hw n o ho) hro⟩,by rw[hn]; exact aft.up⟩,hv⟩
 obtain⟨n,o,l,ho,rest⟩:=hk
 exact aft.fr.fresh k ⟨n,o,l,hw n o ho,rest⟩
theorem Yz {s k d:Nat} {v:V} (hs:s≤k) (hd:k<d):Zh (ts.set d v) s=Zh ts s:=by rw[Zf,if_neg (by omega)]
theorem Oj (args:List W) (j:Nat):Zh (Om 0 args .nil) j=match args[j]? with
  | some v=>.w v
  | none=>undef:=by
 rw[Wq]
 by_cases e:j<args.length
 ·rw[if_pos ⟨Nat.zero_le _,by omega⟩]; simp only[Nat.sub_zero]; rfl
 ·rw[if_neg (by omega),List.getElem?_eq_none (by omega)]; rfl
theorem Goes.ops2 (F:Fits K P) (Hh:Hearts K P) {E:Task→Option Out} (S:Sound K P E) {ops:Array Oper} {ts':Zx} {h':H} (g:Nl K E ops.toList n ops.toList ts h=some (ts',h')) (q:Q .normal ds ts' h'):Goes K P n rd (.region id ops false) ds ts h Q :=
 Goes.ops F Hh S (by rw[g]; exact q)
theorem Zy.tidy {f:FuncId} {args:List W} {v:V} {h':H} (hc:Ga P f) (c:(∀ n o,h.get n=some o→n<h.next)→Zy K P f args h v h'):Zy K P f args h v h':=by
 by_cases e:∀ n o,h.get n=some o→n<h.next
 ·exact c e
 ·refine⟨hc,fun ρ w vals r m hr hd ha=>(e fun n o ho=>?_).elim⟩
  obtain⟨l,hl,_⟩:=hr.obj n o ho
  rcases Nat.lt_or_ge n h.next with h1|h1
  ·exact h1
  ·rw[hd n h1] at hl; cases hl
end
section
variable {K:Cfg} {E:Task→Option Out} {n:Nat} {ts:Zx} {h:H} {all:List Oper}
theorem Zqw (d:Option Tmp) (op:Op) (t:TypeId) (p:String) (a:Array Edge) (j:Nat) (b:Bool):Zb7 K E all n ts h ⟨d,op,t,p,a,some (j,b)⟩=bif Bt all ts (some (j,b)) then We n ts d (Ug K E ts h op) else We n ts d (some (undef,h)):=rfl
theorem Z27 (c a b:Operand):Ug K E ts h (.pick c a b)=Si h (W9 K ts a b (Z6 K ts c)):=rfl
theorem Z1z (t:TypeId):Ug K E ts h (.alloc t)=Xb h (K.types.get t):=rfl
theorem Z58 (t:TypeId) (x:Operand):Ug K E ts h (.box t x)=Yf h (evalW K ts x):=rfl
theorem Zxw (t:TypeId) (ps:Array (Nat × Operand)):Ug K E ts h (.build t ps)=F7 h (Yo K t (Um K ts ps.toList)):=rfl
theorem Zib (t:TypeId) (len:Nat) (ps:Array (Nat × Operand)):Ug K E ts h (.buildSlice t len ps)=Yj h len (Jj K t) (Um K ts ps.toList):=rfl
theorem Zms (x:Operand):Ug K E ts h (.nilCheck x)=O7 h (Dj (Z6 K ts x)):=rfl
theorem Zj1 (t:TypeId) (l c:Operand):Ug K E ts h (.makeSlice t l c)=Uk h (Jj K t) (Ow (Z6 K ts l)) (Ow (Z6 K ts c)):=rfl
theorem Zjn (t:TypeId) (x:Operand) (f:Nat):Ug K E ts h (.fieldAddr t x f)=O7 h (G5 (Z6 K ts x) (Zt K t f)):=rfl
theorem Zx5 (t:TypeId) (x:Operand) (f:Nat):Ug K E ts h (.field t x f)=F7 h (Sn (evalW K ts x) (Zt K t f)):=rfl
theorem Zp3 (x:Operand) (i:Nat):Ug K E ts h (.extract x i)=F7 h (Ey i (Gw K ts x)):=rfl
theorem Zsa (t:TypeId) (x k:Operand) (ok:Bool):Ug K E ts h (.lookup t x k ok)=V8 K h (De K t) (Z6 K ts x) (evalW K ts k) ok:=rfl
theorem Zjk (t:TypeId) (m k v:Operand):Ug K E ts h (.mapUpdate t m k v)=Ex K h (De K t) (Z6 K ts m) (evalW K ts k) (evalW K ts v):=rfl
theorem Z2l (k:IntKind) (z:Int):Zee (.int k z)=some (.w (.c (.int k z))):=rfl
theorem Zw5 (b:Bool):Zee (.bool b)=some (.w (.c (.bool b))):=rfl
theorem Zw0 (k:IntKind) (i:Nat):Ow (some (.int k (i:Int)))=some i:=rfl
theorem Zyp (k:IntKind) (i:Nat):Ow (some (.int k (OfNat.ofNat i:Int)))=some i:=rfl
theorem Z65 (x:C):(W.c x).cells=[x]:=rfl
theorem Zus (l:List C):(W.g l).cells=l:=rfl
theorem Qj {l:List C} (h:0<l.length):Zn l.length [l] 0 l.length=some l:=by
 have e:Nat.beq l.length 0=false:=by
  cases hx:Nat.beq l.length 0 with
  | false=>rfl
  | true=>have:=Nat.eq_of_beq_eq_true hx; omega
 simp only[Zn,Nat.zero_div,Nat.zero_mod,List.getElem?_cons_zero,List.drop_zero,Nat.zero_add,e,cond_false]
 rw[List.take_of_length_le (Nat.le_refl _),Nat.ble_eq_true_of_le (Nat.le_refl _)]
 rfl
theorem Xg {l l':List C} (h:0<l'.length) (e:l.length=l'.length):Z4 l'.length [l] 0 l'=some [l']:=by
 match l',h with
 | [c],_ =>
  match l,e with
  | [d],_=>simp [Z4]; rfl
 | a :: b :: r,_ =>
  simp only[Z4,Nat.zero_div,Nat.zero_mod,List.getElem?_cons_zero,Nat.zero_add,List.take_zero,List.nil_append]
  rw[Nat.ble_eq_true_of_le (by omega),List.drop_of_length_le (by omega)]
  simp
theorem N9 (fn:Func) (ds:List Nat):leave K fn (some (.at .ret ds ts h))=finish K fn ts (U2 ds h):=rfl
theorem Zmk (fn:Func) (ds:List Nat):leave K fn (some (.at .normal ds ts h))=finish K fn ts (U2 ds h):=rfl
theorem nbeq10:Nat.beq 1 0=false:=rfl
theorem Ybo:(true == true)=true:=rfl
theorem Yah:(true == false)=false:=rfl
theorem Yaf:(false == true)=false:=rfl
theorem Yaq:(false == false)=true:=rfl
theorem Uz:decide True=true:=rfl
theorem J7:decide False=false:=rfl
theorem Vm {a b:Nat} (h:a<b):Nat.blt a b=true:=by simpa [Nat.blt_eq] using h
theorem wrap64 {z:Int} (h : -9223372036854775808≤z) (h':z<9223372036854775808):Jr .i64 z=.int .i64 z:=by
 unfold Jr IntKind.wrap
 congr 1
 show (if (true&&decide (z % 18446744073709551616 ≥ 9223372036854775808))=true then z % 18446744073709551616 - 18446744073709551616 else z % 18446744073709551616)=z
 rw[Bool.true_and]
 by_cases e:z % 18446744073709551616 ≥ 9223372036854775808
 ·rw[decide_eq_true e,if_pos rfl]; omega
 ·rw[decide_eq_false e,if_neg (by simp)]; omega
theorem Z73 {z:Int}:Jr .u8 z=.int .u8 (z % 256):=by
 unfold Jr IntKind.wrap
 congr 1
end
def Uh (fn:Func):Code:=match fn.body with
 | some c=>c
 | none=>.skip
def part (k:Nat) (c:Code):Code:=match k,c with
 | 0,.seq a _=>a
 | 1,.seq _ b=>b
 | 2,.block _ b=>b
 | 2,.loop b=>b
 | 2,.scope b=>b
 | 3,.cond _ a _=>a
 | 4,.cond _ _ b=>b
 | 5,.rangeFunc _ _ a _=>a
 | 6,.rangeFunc _ _ _ b=>b
 | _,_=>.skip
theorem part0 (a b:Code):part 0 (.seq a b)=a:=rfl
theorem part1 (a b:Code):part 1 (.seq a b)=b:=rfl
theorem part2 (i:Nat) (b:Code):part 2 (.block i b)=b:=rfl
theorem Z7y (b:Code):part 2 (.loop b)=b:=rfl
theorem Z8w (b:Code):part 2 (.scope b)=b:=rfl
theorem part3 (o:Operand) (a b:Code):part 3 (.cond o a b)=a:=rfl
theorem part4 (o:Operand) (a b:Code):part 4 (.cond o a b)=b:=rfl
theorem part5 (g:Operand) (ps:Array Tmp) (a b:Code):part 5 (.rangeFunc g ps a b)=a:=rfl
theorem part6 (g:Operand) (ps:Array Tmp) (a b:Code):part 6 (.rangeFunc g ps a b)=b:=rfl
def piece:List Nat→Code→Code
 | [],c=>c
 | k :: l,c=>piece l (part k c)
def Zy1:Code→Array Oper
 | .region _ ops _=>ops
 | _=>#[]
end Go.Ev
/- New names may be numbered anew. -/
namespace Go.Ev
open Go.RowKit
section
variable {K:Cfg} {P:Program} {h h1 h':H} {f:FuncId} {args:List W} {v v':V} {τ:Nat→Nat}
theorem Zy.Zde (c:Zy K P f args h v h1) (hold:∀ m,m<h.next→τ m=m) (hbig:∀ m,h'.next≤m→h1.next≤τ m) (hup:h.next≤h'.next) (hv:v'.ren τ=v)
  (hobj:∀ m o,h'.get m=some o→(h.get m=some o∧h1.get m=some o)∨(o.simple=true∧o.ro=false∧h1.get (τ m)=some (o.ren τ)))
  (hinj:∀ m m' o o',h'.get m=some o→h'.get m'=some o'→m≠m'→τ m≠τ m'):Zy K P f args h v' h':=by
 refine⟨c.1,fun ρ w vals r m hr hd ha=>(c.2 ρ w vals r m hr hd ha).mono ?_⟩
 rintro e w' ⟨ρ',val,rfl,aft,hcon⟩
 have hd1:=aft.dom hd
 have lt:∀ m o,h.get m=some o→m<h.next:=fun m o ho=>by
  obtain⟨l,hl,_⟩:=hr.obj m o ho
  rcases Nat.lt_or_ge m h.next with h1|h1
  ·exact h1
  ·rw[hd m h1] at hl; cases hl
 have at1:∀ m o,h'.get m=some o→∃ o1,h1.get (τ m)=some o1∧o1.ro=o.ro:=fun m o ho=>by
  rcases hobj m o ho with ⟨a,b⟩|⟨_,_,b⟩
  ·exact⟨o,by rw[hold m (lt m o a)]; exact b,rfl⟩
  ·exact⟨_,b,Zh1 o⟩
 have hle:Ren.le ρ (fun n=>ρ' (τ n)):=fun n l hl=>by
  have:n<h.next:=by
   rcases Nat.lt_or_ge n h.next with h1|h1
   ·exact h1
   ·rw[hd n h1] at hl; cases hl
  show ρ' (τ n)=some l
  rw[hold n this]
  exact aft.le n l hl
 refine⟨fun n=>ρ' (τ n),val,rfl,⟨hle,fun m l hm=>?_,⟨fun g n hg=>?_,fun m o ho=>?_,fun m m' o o' l l' hne ho ho' hl hl'=>?_⟩,⟨aft.fr.os,aft.fr.tape,aft.fr.output,aft.fr.size,aft.fr.keep,fun k hk=>?_,fun m o ho hro=>?_⟩,hup⟩,?_⟩
 ·have hm':ρ' (τ m)=some l:=hm
  rcases Nat.lt_or_ge m h.next with h2|h2
  ·rw[hold m h2] at hm'
   rcases aft.new m l hm' with h3|h3
   ·exact .inl h3
   ·omega
  ·rcases Nat.lt_or_ge m h'.next with h3|h3
   ·exact .inr ⟨h2,h3⟩
   ·rw[hd1 _ (hbig m h3)] at hm'; cases hm'
 ·obtain⟨r,e⟩:=hr.glob g n hg
  exact⟨r,hle _ _ e⟩
 ·rcases hobj m o ho with ⟨a,b⟩|⟨hs,_,b⟩
  ·obtain⟨l,hl,hor⟩:=hr.obj m o a
   obtain⟨l1,hl1,hor1⟩:=aft.rep.obj m o b
   have e:ρ' (τ m)=some l1:=by rw[hold m (lt m o a)]; exact hl1
   refine⟨l1,e,(hor1.cut (hor.sc hd)).mono fun n l hn=>?_⟩
   unfold Ren.cut at hn
   split at hn
   ·rename_i h2
    show ρ' (τ n)=some l
    rw[hold n h2]
    exact hn
   ·cases hn
  ·obtain⟨l,hl,hor⟩:=aft.rep.obj _ _ b
   exact⟨l,hl,(Wx hs l).1 hor⟩
 ·obtain⟨o1,ho1,hro1⟩:=at1 m o ho
  obtain⟨o1',ho1',hro2⟩:=at1 m' o' ho'
  exact fun hq=>aft.rep.inj (τ m) (τ m') o1 o1' l l' (hinj m m' o o' ho ho' hne) ho1 ho1' hl hl' (by rw[hro1,hro2]; exact hq)
 ·obtain⟨m,o,l,ho,hro,hl,hk⟩:=hk
  obtain⟨o1,ho1,hro1⟩:=at1 m o ho
  exact aft.fr.fresh k ⟨τ m,o1,l,ho1,by rw[hro1]; exact hro,hl,hk⟩
 ·rcases hobj m o ho with ⟨a,_⟩|⟨_,b,_⟩
  ·exact a
  ·rw[b] at hro; cases hro
 ·rw[←Zo7,hv]
  exact hcon
def C.flat:C→Bool
 | .bool _|.int _ _|.str _|.pnil|.snil|.mnil|.nilFn=>true
 | _=>false
def W.flat:W→Bool
 | .c x=>x.flat
 | .g l=>l.all C.flat
def V.flat:V→Bool
 | .w x=>x.flat
 | .tup l=>l.all W.flat
theorem C.Jl {c:C} (h:c.flat=true) (σ:Nat→Nat):c.ren σ=c:=by cases c<;>first|rfl|cases h
theorem Ub {α:Type} {g:α→α} {p:α→Bool} (hg:∀ a,p a=true→g a=a):∀ {l:List α},l.all p=true→l.map g=l
 | [],_=>rfl
 | a :: l,h=>by
  simp only[List.all_cons,Bool.and_eq_true] at h
  rw[List.map_cons,hg a h.1,Ub hg h.2]
theorem W.Jl {x:W} (h:x.flat=true) (σ:Nat→Nat):x.ren σ=x:=by
 cases x with
 | c x=>show W.c _=_; rw[C.Jl h]
 | g l=>show W.g _=_; rw[Ub (fun a ha=>C.Jl ha σ) h]
theorem V.Jl {x:V} (h:x.flat=true) (σ:Nat→Nat):x.ren σ=x:=by
 cases x with
 | w x=>show V.w _=_; rw[W.Jl h]
 | tup l=>show V.tup _=_; rw[Ub (fun a ha=>W.Jl ha σ) h]
theorem Zy.quiet (c:Zy K P f args h v h1) (hv:v.flat=true) (hk:∀ m,m<h.next→h1.get m=h.get m):Zy K P f args h v h:=by
 refine Zy.tidy c.1 fun tidy=>?_
 refine c.Zde (τ:=fun m=>if m<h.next then m else h1.next+m) (fun m hm=>if_pos hm) (fun m hm=>?_) (Nat.le_refl _) (V.Jl hv _) (fun m o ho=>.inl ⟨ho,?_⟩) (fun m m' o o' ho ho' hne=>?_)
 ·show h1.next≤if m<h.next then m else h1.next+m
  rw[if_neg (by omega)]
  omega
 ·rw[hk m (tidy m o ho)]; exact ho
 ·have e1:=tidy m o ho
  have e2:=tidy m' o' ho'
  show (if m<h.next then m else _)≠(if m'<h.next then m' else _)
  rw[if_pos e1,if_pos e2]
  exact hne
theorem Zy.row {n off len sz:Nat} {els:List (List C)} {ws:List W} (c:Zy K P f args h (.tup (.c (.slice n off len sz) :: ws)) h1) (hn:h.next≤n) (ho:h1.get n=some (.row sz els false)) (hw:ws.all W.flat=true) (he:els.all (fun l=>l.all C.flat)=true) (hlt:n<h1.next) (hk:∀ m,m<h.next→h1.get m=h.get m) :
  Zy K P f args h (.tup (.c (.slice h.next off len sz) :: ws)) (h.new (.row sz els false)):=by
 refine Zy.tidy c.1 fun tidy=>?_
 have hτ:∀ m,m<h.next→(if m<h.next then m else if m=h.next then n else h1.next+m)=m:=fun m hm=>if_pos hm
 have hτ2:(if h.next<h.next then h.next else if h.next=h.next then n else h1.next+h.next)=n:=by rw[if_neg (by omega),if_pos rfl]
 refine c.Zde (τ:=fun m=>if m<h.next then m else if m=h.next then n else h1.next+m) hτ (fun m hm=>?_) (by rw[H.Zb]; omega) ?_ (fun m o hm=>?_) (fun m m' o o' hm hm' hne=>?_)
 ·rw[H.Zb] at hm
  show h1.next≤if m<h.next then m else if m=h.next then n else h1.next+m
  rw[if_neg (by omega),if_neg (by omega)]
  omega
 ·show V.tup (W.c (C.slice (if h.next<h.next then h.next else if h.next=h.next then n else h1.next+h.next) off len sz) :: ws.map _)=_
  rw[hτ2,Ub (fun a ha=>W.Jl ha _) hw]
 ·rw[H.Z7] at hm
  split at hm
  ·rename_i e
   subst e
   cases hm
   refine .inr ⟨rfl,rfl,?_⟩
   show h1.get (if h.next<h.next then h.next else if h.next=h.next then n else h1.next+h.next)=_
   rw[hτ2,ho]
   show some (O.row sz els false)=some (O.row sz (els.map (List.map (C.ren _))) false)
   rw[Ub (fun l hl=>Ub (fun a ha=>C.Jl ha _) hl) he]
  ·exact .inl ⟨hm,by rw[hk m (tidy m o hm)]; exact hm⟩
 ·have key:∀ m o,(h.new (.row sz els false)).get m=some o→m<h.next∨m=h.next:=fun m o hm=>by
   rw[H.Z7] at hm
   split at hm
   ·rename_i e; exact .inr e
   ·exact .inl (tidy m o hm)
  show (if m<h.next then m else if m=h.next then n else h1.next+m)≠(if m'<h.next then m' else if m'=h.next then n else h1.next+m')
  rcases key m o hm with e|e<;>rcases key m' o' hm' with e'|e'
  ·rw[if_pos e,if_pos e']; exact hne
  ·rw[if_pos e,if_neg (by omega),if_pos e']; omega
  ·rw[if_neg (by omega),if_pos e,if_pos e']; omega
  ·omega
theorem Zy.row1 {n off len sz:Nat} {els:List (List C)} (c:Zy K P f args h (.w (.c (.slice n off len sz))) h1) (hn:h.next≤n) (ho:h1.get n=some (.row sz els false)) (he:els.all (fun l=>l.all C.flat)=true) (hlt:n<h1.next) (hk:∀ m,m<h.next→h1.get m=h.get m) :
  Zy K P f args h (.w (.c (.slice h.next off len sz))) (h.new (.row sz els false)):=by
 refine Zy.tidy c.1 fun tidy=>?_
 have hτ:∀ m,m<h.next→(if m<h.next then m else if m=h.next then n else h1.next+m)=m:=fun m hm=>if_pos hm
 have hτ2:(if h.next<h.next then h.next else if h.next=h.next then n else h1.next+h.next)=n:=by rw[if_neg (by omega),if_pos rfl]
 refine c.Zde (τ:=fun m=>if m<h.next then m else if m=h.next then n else h1.next+m) hτ (fun m hm=>?_) (by rw[H.Zb]; omega) ?_ (fun m o hm=>?_) (fun m m' o o' hm hm' hne=>?_)
 ·rw[H.Zb] at hm
  show h1.next≤if m<h.next then m else if m=h.next then n else h1.next+m
  rw[if_neg (by omega),if_neg (by omega)]
  omega
 ·show V.w (W.c (C.slice (if h.next<h.next then h.next else if h.next=h.next then n else h1.next+h.next) off len sz))=_
  rw[hτ2]
 ·rw[H.Z7] at hm
  split at hm
  ·rename_i e
   subst e
   cases hm
   refine .inr ⟨rfl,rfl,?_⟩
   show h1.get (if h.next<h.next then h.next else if h.next=h.next then n else h1.next+h.next)=_
   rw[hτ2,ho]
   show some (O.row sz els false)=some (O.row sz (els.map (List.map (C.ren _))) false)
   rw[Ub (fun l hl=>Ub (fun a ha=>C.Jl ha _) hl) he]
  ·exact .inl ⟨hm,by rw[hk m (tidy m o hm)]; exact hm⟩
 ·have key:∀ m o,(h.new (.row sz els false)).get m=some o→m<h.next∨m=h.next:=fun m o hm=>by
   rw[H.Z7] at hm
   split at hm
   ·rename_i e; exact .inr e
   ·exact .inl (tidy m o hm)
  show (if m<h.next then m else if m=h.next then n else h1.next+m)≠(if m'<h.next then m' else if m'=h.next then n else h1.next+m')
  rcases key m o hm with e|e<;>rcases key m' o' hm' with e'|e'
  ·rw[if_pos e,if_pos e']; exact hne
  ·rw[if_pos e,if_neg (by omega),if_pos e']; omega
  ·rw[if_neg (by omega),if_pos e,if_pos e']; omega
  ·omega
theorem Zdj (sz:Nat) (L:List (List C)):Fj sz L 0 sz L.length=some L:=by
 unfold Fj
 cases e:Nat.beq L.length 0 with
 | true =>
  have:=Nat.eq_of_beq_eq_true e
  have:L=[]:=List.length_eq_zero_iff.1 this
  subst this
  rfl
 | false =>
  simp only[cond_false,Nat.beq_refl,cond_true,Nat.zero_mod,Nat.zero_div,Nat.zero_add,Bool.true_and,List.drop_zero]
  rw[Nat.ble_eq_true_of_le (Nat.le_refl _),List.take_of_length_le (Nat.le_refl _)]
  rfl
theorem Xx {n sz:Nat} {L:List (List C)} {ro:Bool} (ho:h.get n=some (.row sz L ro)):Ul h sz (.slice n 0 L.length sz)=some L:=by
 unfold Ul
 simp only[Nat.beq_refl,cond_true,ho,Qi,Zdj]
 cases e:Nat.beq L.length 0 with
 | true =>
  have:=Nat.eq_of_beq_eq_true e
  have:L=[]:=List.length_eq_zero_iff.1 this
  subst this
  rfl
 | false=>rfl
theorem Md {sz i j:Nat} {L:List (List C)} {x:List C} (hj:j<sz) (hx:L[i]? = some x):read1 sz L (i * sz+j)=x[j]?:=by
 unfold read1
 rw[show (i * sz+j) / sz=i by rw[Nat.mul_comm,Nat.mul_add_div (by omega),Nat.div_eq_of_lt hj,Nat.add_zero],show (i * sz+j) % sz=j by rw[Nat.mul_comm,Nat.mul_add_mod,Nat.mod_eq_of_lt hj],hx]
theorem Zpe {sz i:Nat} {L:List (List C)} {e l:List C} (hl:l.length=sz) (h2:2≤sz) (hx:L[i]? = some e) (he:e.length=sz):Z4 sz L (i * sz) l=some (L.set i l):=by
 match l,hl with
 | a :: b :: r,hl =>
  simp only[Z4]
  rw[show i * sz / sz=i from Nat.mul_div_cancel _ (by omega),Nat.mul_mod_left,hx]
  simp only[Nat.zero_add,List.take_zero,List.nil_append]
  rw[hl,Nat.ble_eq_true_of_le (by omega),List.drop_of_length_le (by omega),List.append_nil]
  rfl
 | [a],hl=>simp at hl; omega
 | [],hl=>simp at hl; omega
theorem Zi2 {sz i:Nat} {L:List (List C)} {e:List C} (h1:1≤sz) (hx:L[i]? = some e) (he:e.length=sz):Zn sz L (i * sz) sz=some e:=by
 unfold Zn
 have e0:Nat.beq sz 0=false:=by
  cases hb:Nat.beq sz 0 with
  | false=>rfl
  | true=>have:=Nat.eq_of_beq_eq_true hb; omega
 rw[show i * sz / sz=i from Nat.mul_div_cancel _ (by omega),Nat.mul_mod_left,hx,e0]
 simp only[cond_false,Nat.zero_add,List.drop_zero]
 rw[Nat.ble_eq_true_of_le (by omega),List.take_of_length_le (by omega)]
 rfl
theorem Zam {te:TI} {n n' sz:Nat} {L M:List (List C)} {ro:Bool} (hsz:te.size=sz) (ho:h.get n=some (.row sz L false)) (ho':h.get n'=some (.row sz M ro)) (hM:M≠[]) (hb:(L.length+M.length) * te.bytes≤1099511627776) (hb':L.length+M.length≤1099511627776) :
  Ol h (some te) (.slice n 0 L.length sz) (.slice n' 0 M.length sz)=some (.w (.c (.slice h.next 0 (L.length+M.length) sz)),(h.del n).new (.row sz (L++M) false)):=by
 unfold Ol
 simp only[hsz,Xx ho,Xx ho',Qr,cond_true]
 cases M with
 | nil=>exact absurd rfl hM
 | cons a M =>
  simp only[Vw]
  rw[Nat.ble_eq_true_of_le hb,Nat.ble_eq_true_of_le hb']
  simp only[Bool.true_and,cond_true,Zbz,ho,Y3,hsz]
  rfl
theorem append_nil {te:TI} {n' sz:Nat} {M:List (List C)} {ro:Bool} (hsz:te.size=sz) (ho':h.get n'=some (.row sz M ro)) (hM:M≠[]) (hb:M.length * te.bytes≤1099511627776) (hb':M.length≤1099511627776) :
  Ol h (some te) .snil (.slice n' 0 M.length sz)=some (.w (.c (.slice h.next 0 M.length sz)),h.new (.row sz M false)):=by
 unfold Ol
 simp only[hsz,Xx ho',Qr,cond_true]
 cases M with
 | nil=>exact absurd rfl hM
 | cons a M =>
  simp only[Vw,Ul,List.length_nil,Nat.zero_add]
  rw[Nat.ble_eq_true_of_le hb,Nat.ble_eq_true_of_le hb']
  simp only[Bool.true_and,cond_true,Zbz,Y3,hsz,List.nil_append]
end
end Go.Ev
/- Regions that draw their order, on slots that are not all known. -/
namespace Go.Ev
section
variable {K:Cfg} {n:Nat} {ts:Zx} {h:H}
theorem Z40 (x:Operand):U0 K ts h (.move x)=Si h (Gw K ts x):=rfl
theorem Zx3 (x:Operand):U0 K ts h (.assign x)=Si h (Gw K ts x):=rfl
theorem Z1p (op:BinOp) (t:TypeId) (x y:Operand) (u:TypeId):U0 K ts h (.binOp op t x y u)=O7 h (binop K op t (evalW K ts x) (evalW K ts y)):=rfl
theorem Z56 (op:UnOp) (t:TypeId) (x:Operand):U0 K ts h (.unOp op t x)=O7 h (Zon op (Z6 K ts x)):=rfl
theorem Zrl (s t:TypeId) (x:Operand):U0 K ts h (.convert s t x)=Bi h (K.types.get s) (K.types.get t) (Z6 K ts x):=rfl
theorem Z43 (t:TypeId) (x:Operand):U0 K ts h (.load t x)=Zd2 K h t (Z6 K ts x):=rfl
theorem Z0a (t:TypeId) (x y:Operand):U0 K ts h (.store t x y)=Q3 K h t (Z6 K ts x) (evalW K ts y):=rfl
theorem Znu (t:TypeId) (x i:Operand):U0 K ts h (.indexAddr t x i)=O7 h (Gx K (K.types.get t) (Z6 K ts x) (Ow (Z6 K ts i))):=rfl
theorem Z3z (t:TypeId) (x i:Operand):U0 K ts h (.index t x i)=F7 h (Lu K (K.types.get t) (evalW K ts x) (Ow (Z6 K ts i))):=rfl
theorem Zsh (b:Builtin) (args:Array Operand) (tys:Array TypeId):U0 K ts h (.call ⟨.builtin b,args,tys⟩)=Zr K h b tys.toList (O6 K ts args.toList):=rfl
theorem Z49 (c a b:Operand):U0 K ts h (.pick c a b)=Si h (W9 K ts a b (Z6 K ts c)):=rfl
theorem Z06 (t:TypeId):U0 K ts h (.alloc t)=Xb h (K.types.get t):=rfl
theorem Z87 (t:TypeId) (x:Operand):U0 K ts h (.box t x)=Yf h (evalW K ts x):=rfl
theorem Z28 (t:TypeId) (ps:Array (Nat × Operand)):U0 K ts h (.build t ps)=F7 h (Yo K t (Um K ts ps.toList)):=rfl
theorem Zj3 (t:TypeId) (len:Nat) (ps:Array (Nat × Operand)):U0 K ts h (.buildSlice t len ps)=Yj h len (Jj K t) (Um K ts ps.toList):=rfl
theorem Zqn (x:Operand):U0 K ts h (.nilCheck x)=O7 h (Dj (Z6 K ts x)):=rfl
theorem Zne (t:TypeId) (l c:Operand):U0 K ts h (.makeSlice t l c)=Uk h (Jj K t) (Ow (Z6 K ts l)) (Ow (Z6 K ts c)):=rfl
theorem Zmn (t:TypeId) (x:Operand) (f:Nat):U0 K ts h (.fieldAddr t x f)=O7 h (G5 (Z6 K ts x) (Zt K t f)):=rfl
theorem Zzi (t:TypeId) (x:Operand) (f:Nat):U0 K ts h (.field t x f)=F7 h (Sn (evalW K ts x) (Zt K t f)):=rfl
theorem Zty (x:Operand) (i:Nat):U0 K ts h (.extract x i)=F7 h (Ey i (Gw K ts x)):=rfl
theorem Zyh (t:TypeId) (x k:Operand) (ok:Bool):U0 K ts h (.lookup t x k ok)=V8 K h (De K t) (Z6 K ts x) (evalW K ts k) ok:=rfl
theorem Znb (t:TypeId) (m k v:Operand):U0 K ts h (.mapUpdate t m k v)=Ex K h (De K t) (Z6 K ts m) (evalW K ts k) (evalW K ts v):=rfl
end
theorem Zht:∀ l:List UInt8,Uw l l=true
 | []=>rfl
 | a :: l=>by simp [Uw,Zht l]
theorem Zez (a:Nat):Nat.beq a a=true:=Nat.beq_refl a
theorem Zid:∀ l:List (Option (Nat × Nat)),eqV.eqP l l=true
 | []=>rfl
 | some (a,b) :: l=>by simp [eqV.eqP,Zid l]
 | none :: l=>by simp [eqV.eqP,Zid l]
theorem Zer (c:C):eqV.eqCc c c=true:=by
 cases c<;>simp [eqV.eqCc,Zht,Zid]
theorem Zh2:∀ l:List C,eqV.eqL l l=true
 | []=>rfl
 | a :: l=>by simp [eqV.eqL,Zer,Zh2 l]
theorem Zd6:∀ l:List W,eqV.eqT2 l l=true
 | []=>rfl
 | .c a :: l=>by simp [eqV.eqT2,Zer,Zd6 l]
 | .g a :: l=>by simp [eqV.eqT2,Zh2,Zd6 l]
theorem Zz0 (v:V):eqV v v=true:=by
 cases v with
 | w x=>cases x with
  | c a=>exact Zer a
  | g l=>exact Zh2 l
 | tup l=>exact Zd6 l
theorem Zs3 (v:V) (h:H):gives v (some (v,h))=true:=Zz0 v
theorem Zw2 {n:Nat} {ts:Zx} (d:Tmp) (v:V) (hd:Nat.blt d n=true):Sg n ts (some d) v=some (ts.set d v):=by
 unfold Sg
 simp only[hd,cond_true]
theorem Zwp {n:Nat} {ts:Zx} (v:V):Sg n ts none v=some ts:=rfl
theorem Zcq {a b:Nat} (h:a≤b):Nat.ble a b=true:=Nat.ble_eq_true_of_le h
section
variable {K:Cfg} {P:Program} {n:Nat} {rd:Option Nat} {ds:List Nat} {ts:Zx} {h:H} {Q:X→List Nat→Zx→H→Prop} {id:Nat}
theorem Goes.drawn2 (F:Fits K P) (Hh:Hearts K P) {E:Task→Option Out} (S:Sound K P E) {ops:Array Oper} {ts':Zx} {h':H} (st:(Xz 0 ops.toList&&Xj ops.toList 0 ops.toList&&Nt ops.toList 0 none [] ops.toList)=true) (g:Zpz K ops.toList (Zcr K E ops.toList n 0 ops.toList ⟨ts,h,h,[],[]⟩)=some (ts',h')) (q:Q .normal ds ts' h'):Goes K P n rd (.region id ops true) ds ts h Q :=
 Goes.drawn F Hh S (by
  unfold Xu
  rw[st]
  show then2 (Zpz K ops.toList _) _
  rw[g]
  exact q)
end
def Z4z:Option Out→Option V
 | some (.val v _)=>some v
 | _=>none
theorem Zyg {o:Option Out} {v:V} (h:Z4z o=some v):∃ h',o=some (.val v h'):=by
 unfold Z4z at h
 split at h
 ·cases h; exact⟨_,rfl⟩
 ·cases h
section
variable {K:Cfg} {P:Program} {Y:Kn} {f:FuncId} {args:List W} {v:V}
theorem Zy.pos {h h':H} {G:Nat} (hc:Ga P f) (hg:K.globs.get G=some 0) (c:0<h.next→Zy K P f args h v h'):Zy K P f args h v h':=by
 refine⟨hc,fun ρ w vals r m hr hd ha=>?_⟩
 have hp:0<h.next:=by
  obtain⟨r,e⟩:=hr.glob G 0 hg
  rcases Nat.lt_or_ge 0 h.next with h1|h1
  ·exact h1
  ·rw[hd 0 h1] at e; cases e
 exact (c hp).2 ρ w vals r m hr hd ha
theorem Zy.closed (F:Fits K P) (Hh:Hearts K P) (hY:Zev K P Y) {G:Nat} (hg:K.globs=Tree.set .nil G 0) {n:Nat} (e:Z4z (evX K Y n (.call f args ⟨.nil,1⟩))=some v) (ha:args.all W.flat=true) (hv:v.flat=true) (h:H):Zy K P f args h v h:=by
 obtain⟨h1,e1⟩:=Zyg e
 have c0:Zy K P f args ⟨.nil,1⟩ v h1:=(Nz F Hh hY n).call f args _ _ _ e1
 refine Zy.pos c0.1 (Zje hg) fun hpos=>Zy.tidy c0.1 fun tidy=>?_
 have none0:∀ n o,¬ (⟨.nil,1⟩:H).get n=some o:=fun n o hn=>by cases hn
 have L:Lies K (fun n=>if n<1 then n else h.next+(n - 1)) ⟨.nil,1⟩ h:=by
  refine⟨fun n hn=>if_neg (by have:1≤n:=hn; omega),fun n hn=>?_,fun n o ho=>(none0 n o ho).elim,fun n n' o o' ho=>(none0 n o ho).elim,fun g n hgn=>?_⟩
  ·show (if n<1 then n else _)<h.next
   have:n<1:=hn
   rw[if_pos this]
   omega
  ·rw[(Vj hg hgn).2]; rfl
 have c1:=c0.frame L (h':=⟨h.m,h.next+(h1.next - 1)⟩) ⟨rfl,fun m o ho=>.inl ⟨ho,fun n o' ho'=>(none0 n o' ho').elim⟩⟩
 rw[Ub (fun a ha=>W.Jl ha _) ha,V.Jl hv] at c1
 exact c1.quiet hv fun m _=>rfl
end
def Ot:List C→Option (List Nat)
 | []=>some []
 | .int .u8 (.ofNat n) :: l=>bif Nat.blt n 256 then (match Ot l with
  | some r=>some (n :: r)
  | none=>none) else none
 | _=>none
theorem Zin:∀ {l:List C} {r:List Nat},Ot l=some r→r.length=l.length∧∀ (j b:Nat),r[j]? = some b→b<256∧l[j]? = some (.int .u8 (b:Int))
 | [],r,h=>by
  cases h
  exact⟨rfl,fun j b h=>by simp at h⟩
 | .int .u8 (.ofNat n) :: l,r,h=>by
  simp only[Ot] at h
  cases hb:Nat.blt n 256 with
  | false=>rw[hb] at h; cases h
  | true =>
   rw[hb] at h
   simp only[cond_true] at h
   cases hr:Ot l with
   | none=>rw[hr] at h; cases h
   | some r' =>
    rw[hr] at h
    cases h
    obtain⟨h1,h2⟩:=Zin hr
    refine⟨by simp [h1],fun j b hj=>?_⟩
    cases j with
    | zero =>
     simp at hj
     subst hj
     exact⟨by simpa [Nat.blt_eq] using hb,rfl⟩
    | succ j=>exact h2 j b (by simpa using hj)
 | .int .u8 (.negSucc _) :: _,_,h=>by simp [Ot] at h
 | .int .i8 _ :: _,_,h=>by simp [Ot] at h
 | .int .i16 _ :: _,_,h=>by simp [Ot] at h
 | .int .i32 _ :: _,_,h=>by simp [Ot] at h
 | .int .i64 _ :: _,_,h=>by simp [Ot] at h
 | .int .u16 _ :: _,_,h=>by simp [Ot] at h
 | .int .u32 _ :: _,_,h=>by simp [Ot] at h
 | .int .u64 _ :: _,_,h=>by simp [Ot] at h
 | .bool _ :: _,_,h=>by simp [Ot] at h
 | .str _ :: _,_,h=>by simp [Ot] at h
 | .ptr _ _ :: _,_,h=>by simp [Ot] at h
 | .pnil :: _,_,h=>by simp [Ot] at h
 | .slice _ _ _ _ :: _,_,h=>by simp [Ot] at h
 | .snil :: _,_,h=>by simp [Ot] at h
 | .map _ :: _,_,h=>by simp [Ot] at h
 | .mnil :: _,_,h=>by simp [Ot] at h
 | .fn _ _ _ :: _,_,h=>by simp [Ot] at h
 | .yield _ :: _,_,h=>by simp [Ot] at h
 | .nilFn :: _,_,h=>by simp [Ot] at h
theorem Zjw {sz off n:Nat} {els:List (List C)} {l:List C} (h:Zn sz els off n=some l) (hn:off % sz+n≤sz):l.length=n∧∀ j,j<n→read1 sz els (off+j)=l[j]?:=by
 unfold Zn at h
 cases e:Nat.beq n 0 with
 | true =>
  have:=Nat.eq_of_beq_eq_true e
  subst this
  rw[e] at h
  cases h
  exact⟨rfl,fun j hj=>by omega⟩
 | false =>
  rw[e] at h
  simp only[cond_false] at h
  cases hx:els[off / sz]? with
  | none=>rw[hx] at h; cases h
  | some x =>
   rw[hx] at h
   simp only at h
   cases hb:Nat.ble (off % sz+n) x.length with
   | false=>rw[hb] at h; cases h
   | true =>
    rw[hb] at h
    cases h
    have hle:off % sz+n≤x.length:=Nat.le_of_ble_eq_true hb
    refine⟨by simp; omega,fun j hj=>?_⟩
    have hpos:0<sz:=by omega
    have e1:(off+j) / sz=off / sz:=by
     have h1:=Nat.div_add_mod off sz
     have h2:off+j=sz * (off / sz)+(off % sz+j):=by omega
     rw[h2,Nat.mul_add_div hpos,Nat.div_eq_of_lt (show off % sz+j<sz by omega),Nat.add_zero]
    have e2:(off+j) % sz=off % sz+j:=by
     have h1:=Nat.div_add_mod off sz
     have h2:off+j=sz * (off / sz)+(off % sz+j):=by omega
     rw[h2,Nat.mul_add_mod,Nat.mod_eq_of_lt (show off % sz+j<sz by omega)]
    unfold read1
    rw[e1,e2,hx]
    rw[List.getElem?_take_of_lt hj,List.getElem?_drop]
end Go.Ev
/- A simp set for walks on the evaluator's level; conditions that arithmetic settles. -/
namespace Go.Ev
open Go.RowKit
section
variable {K:Cfg} {P:Program} {n:Nat} {rd:Option Nat} {ds:List Nat} {ts:Zx} {h:H} {Q R:X→List Nat→Zx→H→Prop} {a b c:Code} {id:Nat}
theorem Zy.Ybz (F:Fits K P) (Hh:Hearts K P) {f:FuncId} {fn:Func} {body:Code} {args:List W} {R:V→H→Prop} (hc:K.clones.contains f=false) (hs:K.sorted.lookup f=none) (hf:K.funcs.get f=some fn) (hb:fn.body=some body) (hn:Nat.ble args.length fn.ntmps=true)
  (g:Goes K P fn.ntmps none body [] (Om 0 args .nil) h fun x ds ts h1=>∃ v h',leave K fn (some (.at x ds ts h1))=some (.val v h')∧R v h'):∃ v h',Zy K P f args h v h'∧R v h':=by
 obtain⟨x,ds',ts',h1,g1,v,h',g2,r⟩:=g
 exact⟨v,h',Zy.body F Hh hc hs hf hb hn g1 g2,r⟩
end
theorem Zdv {K:Cfg} {E:Task→Option Out} {ts:Zx} {h:H} (f:FuncId) (a b:Array Operand):Ug K E ts h (.makeFunc (.func f) a b)=O7 h (R7 f (O6 K ts a.toList) (O6 K ts b.toList)):=rfl
theorem Znv {K:Cfg} {E:Task→Option Out} {ts:Zx} {h:H} (t:TypeId):Ug K E ts h (.makeMap t none)=Lf h:=rfl
theorem Zwi {K:Cfg} {E:Task→Option Out} {ts:Zx} {h:H} (t:TypeId) (x:Operand) (lo hi:Option Operand):Ug K E ts h (.slice t x lo hi none)=O7 h (Oq K h (K.types.get t) (Z6 K ts x) (Du K ts lo) (Du K ts hi)):=rfl
theorem Ztx {K:Cfg} {E:Task→Option Out} {ts:Zx} {h:H} (t:TypeId) (x:Operand) (lo hi:Option Operand) (m:Operand):Ug K E ts h (.slice t x lo hi (some m))=O7 h (Zcl K h (K.types.get t) (Z6 K ts x) (Du K ts lo) (Du K ts hi) (Du K ts (some m))):=rfl
theorem Zbg {K:Cfg} {E:Task→Option Out} {all rest:List Oper} {n:Nat} {ts ts':Zx} {h h':H} {o:Oper} {r:Option (Zx × H)} (e:Zb7 K E all n ts h o=some (ts',h')) (g:Nl K E all n rest ts' h'=r):Nl K E all n (o :: rest) ts h=r:=by
 rw[Zbi,e]
 exact g
theorem Zbt {K:Cfg} {E:Task→Option Out} {all:List Oper} {n:Nat} {ts:Zx} {h:H}:Nl K E all n [] ts h=some (ts,h):=rfl
theorem Qm {a b:Nat} (h:a<b):Nat.blt a b=true:=Vm h
theorem Nj {a b:Nat} (h:a≤b):Nat.ble a b=true:=Nat.ble_eq_true_of_le h
theorem Z7h {a b:Nat} (h:a=b):Nat.beq a b=true:=by subst h; exact Nat.beq_refl a
theorem Nn {a b:Nat} (h:a≠b):Nat.beq a b=false:=by
 cases hx:Nat.beq a b with
 | false=>rfl
 | true=>exact absurd (Nat.eq_of_beq_eq_true hx) h
theorem Ybw {a b:Nat} (h:b≤a):Nat.blt a b=false:=by
 cases hx:Nat.blt a b with
 | false=>rfl
 | true=>rw[Nat.blt_eq] at hx; omega
theorem Zvg {z:Int} (h : -9223372036854775808≤z∧z<9223372036854775808):Jr .i64 z=.int .i64 z:=wrap64 h.1 h.2
theorem Tv {z:Int} (h:0≤z∧z<4294967296):Jr .u32 z=.int .u32 z:=by
 unfold Jr IntKind.wrap
 congr 1
 show (z % 4294967296)=z
 omega
theorem Zil {z:Int} (h:0≤z∧z<65536):Jr .u16 z=.int .u16 z:=by
 unfold Jr IntKind.wrap
 congr 1
 show (z % 65536)=z
 omega
theorem Zgg {z:Int} (h:0≤z∧z<256):Jr .u8 z=.int .u8 z:=by
 unfold Jr IntKind.wrap
 congr 1
 show (z % 256)=z
 omega
theorem Zys {z:Int} (h:0≤z∧z<18446744073709551616):Jr .u64 z=.int .u64 z:=by
 unfold Jr IntKind.wrap
 congr 1
 show (z % 18446744073709551616)=z
 omega
theorem Ycl {p:Prop} [Decidable p] (h:p):decide p=true:=decide_eq_true h
theorem Ycs {p:Prop} [Decidable p] (h:¬p):decide p=false:=decide_eq_false h
theorem Za7 {a b:Int} (h:a=b):(a == b)=true:=by simpa using h
theorem Ee {a b:Int} (h:a≠b):(a == b)=false:=by simpa using h
theorem Mr {a b:Int} (h:a≠b):(a != b)=true:=by simpa using h
theorem Ybu {a b:Int} (h:a=b):(a != b)=false:=by simpa using h
theorem Zvk {f:Nat→Nat→Nat} {a b:Nat} (ha:a<256) (hb:b<256) (hf:f a b<256):Dc .u8 f (a:Int) (b:Int)=.int .u8 (f a b:Nat):=by
 unfold Dc
 have e1:((a:Int) % 2 ^ IntKind.u8.bits).toNat=a:=by
  show ((a:Int) % 256).toNat=a
  omega
 have e2:((b:Int) % 2 ^ IntKind.u8.bits).toNat=b:=by
  show ((b:Int) % 256).toNat=b
  omega
 rw[e1,e2]
 exact Zgg (by omega)
theorem Em {k:IntKind} {a b:Nat} (hb:0<b):Np k (a:Int) (b:Int)=some (.int k ((a % b:Nat):Int)):=by
 unfold Np
 have:((b:Int) == 0)=false:=by simp; omega
 rw[this]
 rfl
theorem Ea {a b:Nat} (hb:0<b) (ha:a<9223372036854775808):Mk .i64 (a:Int) (b:Int)=some (.int .i64 ((a / b:Nat):Int)):=by
 unfold Mk
 have:((b:Int) == 0)=false:=by simp; omega
 rw[this,cond_false]
 have e:(a:Int).tdiv b=((a / b:Nat):Int):=rfl
 have h1:a / b≤a:=Nat.div_le_self _ _
 rw[e,Zvg]
 generalize a / b=q at h1
 omega
theorem Z4t {k:IntKind} {a n:Nat} (h:0<(OfNat.ofNat n:Nat)):Np k (a:Int) (no_index (OfNat.ofNat n:Int))=some (.int k ((a % (OfNat.ofNat n:Nat):Nat):Int)):=Em (b:=n) h
theorem Z54 {a n:Nat} (h:0<(OfNat.ofNat n:Nat)∧a<9223372036854775808):Mk .i64 (a:Int) (no_index (OfNat.ofNat n:Int))=some (.int .i64 ((a / (OfNat.ofNat n:Nat):Nat):Int)):=Ea (b:=n) h.1 h.2
theorem Zxg {k:IntKind} {z:Int} (h:0≤z):Ow (some (.int k z))=some z.toNat:=by
 obtain⟨m,rfl⟩:=Int.eq_ofNat_of_zero_le h
 rfl
theorem Z5o {E:Task→Option Out} {f g:FuncId} {args us:List W} {h k:H} {v:V} {h':H} (e:g≠f):E1 E f args h v h' (.call g us k)=E (.call g us k):=by
 simp [E1,e]
theorem Zz6 {n d:Nat} {ts:Zx} {h:H} {v:V} (hd:d<n):We n ts (some d) (some (v,h))=some (ts.set d v,h):=Yw d v (Qm hd)
theorem Z5n {n d:Nat} {ts:Zx} {v:V} (hd:d<n):Sg n ts (some d) v=some (ts.set d v):=Zw2 d v (Qm hd)
theorem Zxo:Zee (.pointer none)=some (.w (.c .pnil)):=rfl
theorem Zxj:Zee (.slice none 0 0)=some (.w (.c .snil)):=rfl
theorem Zv6:Zee (.map none)=some (.w (.c .mnil)):=rfl
theorem Zt5:Zee .nilFunc=some (.w (.c .nilFn)):=rfl
theorem Zy9 (s:ByteArray):Zee (.string s)=some (.w (.c (.str s.data.toList))):=rfl
theorem Gq {E:Task→Option Out} {f g:FuncId} {args us:List W} {h k:H} {v:V} {h':H} (e:k.next≠h.next):E1 E f args h v h' (.call g us k)=E (.call g us k):=by
 unfold E1
 rw[if_neg]
 intro x
 cases x
 exact e rfl
theorem Zz (h:H) (n:Nat) (o:O):(h.put n o).get n=some o:=by rw[H.get_put,if_pos rfl]
theorem Ze {h:H} {n m:Nat} {o:O} (e:m≠n):(h.put n o).get m=h.get m:=by rw[H.get_put,if_neg e]
theorem U8 (h:H) (o:O):(h.new o).get h.next=some o:=by rw[H.Z7,if_pos rfl]
theorem Z8 {h:H} {m:Nat} {o:O} (e:m≠h.next):(h.new o).get m=h.get m:=by rw[H.Z7,if_neg e]
theorem Jv {h:H} {m:Nat} {o:O} (e:m≤h.next∧h.next≤m):(h.new o).get m=some o:=by rw[show m=h.next by omega,U8]
theorem Xw {h:H} {n m:Nat} (e:m≠n):(h.del n).get m=h.get m:=by rw[H.Nu,if_neg e]
attribute [go_sem] Zbi Zlb Zpd Zqw Bt Zc5 Tree.X9 List.getElem?_cons_succ List.getElem?_cons_zero Um Z2u Zrw Zx8 Z04 Zqa Z1r Zxa Zjx Z1z Z27 Z58 Zxw Zib Zms Zj1 Zjn Zx5 Zp3 Zsa Zjk Zod Z4c Ztr Ztt Zww Z63 Z5t Z35 Zqd Zqb Zqy Zp2 Z0j Zwo evalW Z6 O6 Y2 Zpg Zrh Z2l Zw5 asW asC Zf binop Zup Z5a Zon O7 F7 Si Z91 Zkc Zd2 Go.Ev.load Q3 Go.Ev.store putRow Gx Zoo Zw0 Zyp Bi Xb Zhf Zz6 Zr7 Sa Me List.map_nil List.nil_append List.append_nil cond_true cond_false H.Zd H.Zb if_true Dj W9 Ey G5 Z65 Zus List.length_cons List.length_nil Uz J7 nbeq10 Ybo Yah Yaf Yaq Bool.not_true Bool.not_false
attribute [go_sem] Zz Ze U8 Z8 Jv Xw H.Yv Zvg Tv Zil Zgg Zys Zxg Qm Nj Z7h Nn Ybw Nat.beq_refl Oj
attribute [go_sem] N9 Zmk U2 finish Uv Be
attribute [go_sem] Int.toNat_natCast Zxo Zxj Zv6 Zt5 Zy9 Option.toList_some Option.toList_none Z9h Z19 eqC isB Z0d Z5o Nat.zero_add Nat.mul_one cW gW List.getElem?_nil
attribute [go_sem] Zdv Znv Zwi Ztx R7 ptrs Lf
attribute [go_sem] Z4t Z54 Ycl Ycs Za7 Ee Mr Ybu
attribute [go_sem] Bool.and_true Bool.true_and Bool.and_false Bool.false_and Bool.and_self Bool.or_true Bool.true_or Bool.or_false Bool.false_or List.getElem?_cons_zero
attribute [go_sem] Yd Fq partOf Sn Z9v List.set_cons_zero List.set_cons_succ List.take_succ_cons List.drop_succ_cons List.take_zero List.drop_zero List.take_nil List.drop_nil List.cons_append List.singleton_append Jo
attribute [go_sem] piece part0 part1 part2 Z7y Z8w part3 part4 part5 part6 Uh Zy1
section
variable {K:Cfg} {P:Program} {n:Nat} {rd:Option Nat} {ds:List Nat} {ts:Zx} {h:H} {Q:X→List Nat→Zx→H→Prop} {q a b:Code} {id:Nat}
theorem Goes.Zi {o:Operand} {v:Bool} (hc:Z6 K ts o=some (.bool v)) (g:Goes K P n rd (bif v then a else b) ds ts h Q):Goes K P n rd (.cond o a b) ds ts h Q:=by
 cases v with
 | true=>exact Goes.Ybh hc g
 | false=>exact Goes.Yag hc g
end
theorem lens:(∀ (h:H) (o:O),(h.new o).next=h.next+1)∧(∀ (h:H) (n:Nat) (o:O),(h.put n o).next=h.next)∧(∀ a b:List C,(a++b).length=a.length+b.length)∧(∀ (n:Nat) (x:C),(List.replicate n x).length=n)∧(∀ (x:C) (l:List C),(x :: l).length=l.length+1)∧([]:List C).length=0∧(∀ (n:Nat) (l:List C),(l.take n).length=min n l.length)∧(∀ (l:List C) (i:Nat) (c:C),(l.set i c).length=l.length)∧(∀ (l:List Nat) (i c:Nat),(l.set i c).length=l.length) :=
 ⟨H.Zb,H.Zd,fun _ _=>List.length_append,fun _ _=>List.length_replicate,fun _ _=>List.length_cons,rfl,fun _ _=>List.length_take,fun _ _ _=>List.length_set,fun _ _ _=>List.length_set⟩
attribute [go_sem] Z40 Zx3 Z1p Z56 Zrl Z43 Z0a Znu Z06 Z49 Z87 Z28 Zj3 Zqn Zne Zmn Zzi Zty Zyh Znb Zsh Z3z
attribute [go_sem] Zpz Zcr Zk5 Z80 Ya0 Zrf Zsd Zmd Zld Zt1 Vb Z5n Zwp Dv looks Z7j Op.operands Call.operands kd Ztm Xi stable Zce Zhi waits Zs3 Region.binds
theorem drG:(∀ (α β:Type) (f:α→Option β) (a:α) (l:List α),(a :: l).filterMap f=match f a with|none=>l.filterMap f|some b=>b :: l.filterMap f)∧(∀ (α β:Type) (f:α→Option β),List.filterMap f []=[])∧(∀ (α:Type) (l:List α),l++[]=l)∧(∀ (α:Type) (l:List α),[]++l=l)∧(∀ (α:Type) (p:α→Bool) (a:α) (l:List α),(a :: l).all p=(p a&&l.all p))∧(∀ (α:Type) (p:α→Bool),List.all [] p=true)∧(∀ (α:Type) (p:α→Bool) (a:α) (l:List α),(a :: l).any p=(p a || l.any p))∧(∀ (α:Type) (p:α→Bool),List.any [] p=false)∧(∀ (α β:Type) (f:α→β) (a:α) (l:List α),(a :: l).map f=f a :: l.map f)∧(∀ (α:Type) (a b:Array α),(a++b).toList=a.toList++b.toList)∧(∀ a b:Nat,a≤b→Nat.ble a b=true)∧(∀ a:Nat,a≤a)∧∀ a b:Nat,a≤a+b :=
 ⟨fun _ _ _ _ _=>List.filterMap_cons,fun _ _ _=>rfl,fun _ l=>List.append_nil l,fun _ _=>rfl,fun _ _ _ _=>rfl,fun _ _=>rfl,fun _ _ _ _=>rfl,fun _ _=>rfl,fun _ _ _ _ _=>rfl,fun _ _ _=>Array.toList_append,fun _ _ h=>Zcq h,Nat.le_refl,fun a b=>Nat.le_add_right a b⟩
end Go.Ev
/- Ranges over functions, walked. -/
namespace Go.Ev
open Go.RowKit
section
variable {K:Cfg} {P:Program} {n:Nat} {rd:Option Nat} {ds:List Nat} {ts:Zx} {h:H} {Q:X→List Nat→Zx→H→Prop} {id:Nat}
def Z8o (Q:X→List Nat→Zx→H→Prop) (ds:List Nat) (ts:Zx) (h:H):Option Code→Prop
 | none=>Q .normal ds ts h
 | some (.exit id)=>Q (.exit id) ds ts h
 | some .ret=>Q .ret ds ts h
 | _=>False
theorem Zmg {pend:Option Code} (q:Z8o Q ds ts h pend):∃ x,pending ds ts h pend=some (.at x ds ts h)∧Q x ds ts h:=by
 cases pend with
 | none=>exact⟨.normal,rfl,q⟩
 | some c=>cases c<;>first|exact⟨_,rfl,q⟩|exact q.elim
theorem Goes.range (F:Fits K P) (Hh:Hearts K P) {g:Operand} {ps:Array Tmp} {assign body:Code} {f:FuncId} {first caps:List (Option (Nat × Nat))} (hg:Z6 K ts g=some (.fn f first caps)) {v:V} {h3:H} (c:Zy K P f (Me [.c (.yield (h.next+1))] first caps) ((h.new .defers).new (.loop ts n ps.toList assign body .ready none h.next)) v h3)
  {ts':Zx} {n':Nat} {ps':List Tmp} {us1' bd':Code} {st:LoopState} {pend:Option Code} {d:Nat} (hl:h3.get (h.next+1)=some (.loop ts' n' ps' us1' bd' st pend d)) (hst:st≠.busy)
  (q:Z8o Q (h.next :: ds) ts (h3.put (h.next+1) (.loop ts' n' ps' us1' bd' .exhausted pend d)) pend):Goes K P n none (.rangeFunc g ps assign body) ds ts h Q:=by
 obtain⟨x,e,q'⟩:=Zmg q
 have S:=Zp Za c
 have T:=Le F Hh S (Q7 F S)
 refine⟨x,_,_,_,T.code (.rangeFunc g ps assign body) n none ds ts h x _ _ _ ?_,q'⟩
 show Zf0 _ ps.toList assign body n none ds ts h (Z6 K ts g)=_
 rw[hg]
 show endLoop (h.next :: ds) ts (h.new .defers).next (E1 E0 f _ _ v h3 (.call f (Me [.c (.yield (h.new .defers).next)] first caps) ((h.new .defers).new (.loop ts n ps.toList assign body .ready none h.next))))=_
 rw[show (h.new .defers).next=h.next+1 from rfl,Ya]
 show (match h3.get (h.next+1) with
  | some (.loop ts' n' ps ag bd st pend d)=>(match st with
   | .busy=>none
   | _=>pending (h.next :: ds) ts (h3.put (h.next+1) (.loop ts' n' ps ag bd .exhausted pend d)) pend)
  | _=>none)=_
 rw[hl]
 cases st with
 | busy=>exact absurd rfl hst
 | _=>exact e
theorem exE {α β:Type} {A R S:α→β→Prop} (x:∃ a b,A a b∧R a b) (q:∀ a b,R a b→S a b):∃ a b,A a b∧S a b:=by
 obtain⟨a,b,h1,h2⟩:=x
 exact⟨a,b,h1,q a b h2⟩
theorem Goes.Zbq (F:Fits K P) (Hh:Hearts K P) {g:Operand} {ps:Array Tmp} {assign body:Code} {f:FuncId} {first caps:List (Option (Nat × Nat))} (hg:Z6 K ts g=some (.fn f first caps))
  (e:∃ v h3,Zy K P f (Me [.c (.yield (h.next+1))] first caps) ((h.new .defers).new (.loop ts n ps.toList assign body .ready none h.next)) v h3 ∧
   ∃ st pend ts' n' ps' us1' bd' d,h3.get (h.next+1)=some (.loop ts' n' ps' us1' bd' st pend d)∧st≠.busy∧Z8o Q (h.next :: ds) ts (h3.put (h.next+1) (.loop ts' n' ps' us1' bd' .exhausted pend d)) pend):Goes K P n none (.rangeFunc g ps assign body) ds ts h Q:=by
 obtain⟨v,h3,c,st,pend,ts',n',ps',us1',bd',d,hl,hst,q⟩:=e
 exact Goes.range F Hh hg c hl hst q
open Classical in
noncomputable def EA (E:Task→Option Out) (f:FuncId) (args:List W) (v:H→V) (g:H→H):Task→Option Out:=fun t=>match t with
 | .call f' args' h=>if f'=f∧args'=args then some (.val (v h) (g h)) else E t
 | t=>E t
theorem Yp {E:Task→Option Out} (S:Sound K P E) {f:FuncId} {args:List W} {v:H→V} {g:H→H} (c:∀ h,Zy K P f args h (v h) (g h)):Sound K P (EA E f args v g):=by
 refine⟨fun f' us k u k' he=>?_,fun c n rd ds ts h x ds' ts' h' he=>?_,fun t o he=>?_⟩
 ·simp only[EA] at he
  split at he
  ·rename_i e
   obtain⟨rfl,rfl⟩:=e
   cases he
   exact c k
  ·exact S.call f' us k u k' he
 ·exact S.code c n rd ds ts h x ds' ts' h' he
 ·cases t with
  | code c n rd ds ts h=>exact S.shape _ o he
  | call f' us k =>
   simp only[EA] at he
   split at he
   ·cases he
    exact .inl ⟨_,_,_,_,_,rfl,rfl⟩
   ·exact S.shape _ o he
theorem Z5w (E:Task→Option Out) (f:FuncId) (args:List W) (v:H→V) (g:H→H) (h:H):EA E f args v g (.call f args h)=some (.val (v h) (g h)):=by simp [EA]
theorem Z5f {E:Task→Option Out} {f f':FuncId} {args us:List W} {v:H→V} {g:H→H} {h:H} (e:f'≠f):EA E f args v g (.call f' us h)=E (.call f' us h):=by
 simp [EA,e]
attribute [go_sem] Z5w Z5f
open Classical in
noncomputable def E1c (E:Task→Option Out) (c:Code) (n:Nat) (rd:Option Nat) (ds:List Nat) (ts:Zx) (h:H) (x:X) (ds':List Nat) (ts':Zx) (h':H):Task→Option Out:=fun t=>if t=.code c n rd ds ts h then some (.at x ds' ts' h') else E t
theorem Bj {E:Task→Option Out} (S:Sound K P E) {c:Code} {x:X} {ds':List Nat} {ts':Zx} {h':H} (k:Yi K P n rd c ds ts h x ds' ts' h'):Sound K P (E1c E c n rd ds ts h x ds' ts' h'):=by
 refine⟨fun g us k' u k2 he=>?_,fun c2 n2 rd2 ds2 ts2 h2 x2 ds3 ts3 h3 he=>?_,fun t o he=>?_⟩
 ·simp only[E1c] at he
  split at he
  ·rename_i e
   cases e
  ·exact S.call g us k' u k2 he
 ·simp only[E1c] at he
  split at he
  ·rename_i e
   cases e
   cases he
   exact k
  ·exact S.code c2 n2 rd2 ds2 ts2 h2 x2 ds3 ts3 h3 he
 ·simp only[E1c] at he
  split at he
  ·rename_i e
   cases e
   cases he
   exact .inr ⟨_,_,_,_,_,_,_,_,_,_,rfl,rfl⟩
  ·exact S.shape t o he
theorem Eh (E:Task→Option Out) (c:Code) (n:Nat) (rd:Option Nat) (ds:List Nat) (ts:Zx) (h:H) (x:X) (ds':List Nat) (ts':Zx) (h':H):E1c E c n rd ds ts h x ds' ts' h' (.code c n rd ds ts h)=some (.at x ds' ts' h'):=by simp [E1c]
theorem Qf {E:Task→Option Out} {c:Code} {x:X} {ds':List Nat} {ts':Zx} {h':H} {c2:Code} {n2:Nat} {rd2:Option Nat} {ds2:List Nat} {ts2:Zx} {h2:H} (e:Task.code c2 n2 rd2 ds2 ts2 h2≠Task.code c n rd ds ts h):E1c E c n rd ds ts h x ds' ts' h' (.code c2 n2 rd2 ds2 ts2 h2)=E (.code c2 n2 rd2 ds2 ts2 h2):=by
 unfold E1c
 rw[if_neg e]
theorem Lg {E:Task→Option Out} {l:Nat} {args:List W} {lts:Zx} {ps:List Tmp} {assign body:Code} {st0:LoopState} {pend0:Option Code} {d:Nat} {ts1:Zx} (hl:h.get l=some (.loop lts n ps assign body st0 pend0 d)) (hz:U4 n ps args lts=some ts1)
  {ds1:List Nat} {ts2:Zx} {h1:H} (ha:E (.code assign n (some l) [] ts1 h)=some (.at .normal ds1 ts2 h1))
  {lts':Zx} {n':Nat} {ps':List Tmp} {us1' bd':Code} {pend:Option Code} {d':Nat} (hl1:h1.get l=some (.loop lts' n' ps' us1' bd' .ready pend d'))
  {x:X} {ds2:List Nat} {ts3:Zx} {h2:H} (hb:E (.code body n (some l) ds1 ts2 (h1.put l (.loop lts' n' ps' us1' bd' .busy pend d')))=some (.at x ds2 ts3 h2))
  {lts2:Zx} {n2:Nat} {ps2:List Tmp} {as2 bd2:Code} {p2:Option Code} {d2:Nat} (hl2:h2.get l=some (.loop lts2 n2 ps2 as2 bd2 .busy p2 d2)) :
  Jz E l (some args) h (h.get l)=some (.val (.w (.c (.bool (Zq3 x)))) (h2.put l (.loop lts2 n2 ps2 as2 bd2 (Zm8 x) (Zn7 x) d2))):=by
 rw[hl]
 simp only[Jz,hz,ha,Vp,hl1,hb,endRound,hl2]
end
end Go.Ev
/- Functions known by what they make of arguments and memory; calls whose own objects fall; maps with ints as keys. -/
namespace Go.Ev
open Go.RowKit
section
variable {K:Cfg} {P:Program} {f:FuncId} {args:List W} {h h1 h2:H} {v:V}
abbrev Kn1:=List W→H→Option (V × H)
def Z64:Option (V × H)→Option Out
 | some (v,h)=>some (.val v h)
 | none=>none
theorem Zxy (v:V) (h:H):Z64 (some (v,h))=some (.val v h):=rfl
theorem Zvm {r:Option (V × H)} {o:Out} (e:Z64 r=some o):∃ v h,r=some (v,h)∧o=.val v h:=by
 match r with
 | some (v,h)=>cases e; exact⟨v,h,rfl,rfl⟩
 | none=>cases e
noncomputable def EX (E:Task→Option Out) (f:FuncId) (x:Kn1):Task→Option Out:=fun t=>match t with
 | .call g args h=>bif Nat.beq g f then Z64 (x args h) else E (.call g args h)
 | t=>E t
theorem Ru {E:Task→Option Out} (S:Sound K P E) {f:FuncId} {x:Kn1} (c:∀ args h v h',x args h=some (v,h')→Zy K P f args h v h'):Sound K P (EX E f x):=by
 refine⟨fun g us k u k' he=>?_,fun c n rd ds ts h x ds' ts' h' he=>?_,fun t o he=>?_⟩
 ·simp only[EX] at he
  cases hb:Nat.beq g f with
  | true =>
   rw[hb] at he
   obtain⟨v,h,e,e2⟩:=Zvm he
   cases e2
   obtain rfl:=Nat.eq_of_beq_eq_true hb
   exact c _ _ _ _ e
  | false=>rw[hb] at he; exact S.call g us k u k' he
 ·exact S.code c n rd ds ts h x ds' ts' h' he
 ·cases t with
  | code c n rd ds ts h=>exact S.shape _ o he
  | call g us k =>
   simp only[EX] at he
   cases hb:Nat.beq g f with
   | true =>
    rw[hb] at he
    obtain⟨v,h,e,e2⟩:=Zvm he
    exact .inl ⟨_,_,_,_,_,rfl,e2⟩
   | false=>rw[hb] at he; exact S.shape _ o he
theorem EY {E:Task→Option Out} (S:Sound K P E) {f:FuncId} {x:Kn1} (c:∀ {args:List W} {h h':H} {v:V},x args h=some (v,h')→Zy K P f args h v h'):Sound K P (EX E f x):=Ru S fun _ _ _ _ e=>c e
theorem Z52 (E:Task→Option Out) (f:FuncId) (x:Kn1) (args:List W) (h:H):EX E f x (.call f args h)=Z64 (x args h):=by
 simp only[EX,Nat.beq_refl,cond_true]
theorem Z6z {E:Task→Option Out} {f g:FuncId} {x:Kn1} {args:List W} {h:H} (e:g≠f):EX E f x (.call g args h)=E (.call g args h):=by
 have:Nat.beq g f=false:=Nn e
 simp only[EX,this,cond_false]
def Y8 {α:Type} (c:Bool) (k:Option α):Option α:=bif c then k else none
theorem Zw1 {α:Type} (k:Option α):Y8 true k=k:=rfl
theorem Zu {α:Type} {c:Bool} {k:Option α} {r:α}:Y8 c k=some r ↔ c=true∧k=some r:=by
 cases c
 ·refine⟨fun e=>?_,fun e=>?_⟩
  ·cases e
  ·cases e.1
 ·exact⟨fun e=>⟨rfl,e⟩,fun e=>e.2⟩
theorem Zo {α β:Type} {o:Option α} {g:α→Option β} {r:β} (e:o.bind g=some r):∃ a,o=some a∧g a=some r:=by
 cases o with
 | none=>cases e
 | some a=>exact⟨a,rfl,e⟩
def Zx6 (b:Nat) (o:O):Prop:=o.simple=true∧o.ro=false∧∀ τ:Nat→Nat,(∀ m,m<b→τ m=m)→o.ren τ=o
def Zfr (b:Nat) (v:V):Prop:=∀ τ:Nat→Nat,(∀ m,m<b→τ m=m)→v.ren τ=v
def R9 (h h2:H):Prop:=h2.next=h.next∧∀ m o,h2.get m=some o→m<h.next∧(h.get m=some o∨Zx6 h.next o)
theorem R9.refl (tidy:∀ n o,h.get n=some o→n<h.next):R9 h h:=⟨rfl,fun m o e=>⟨tidy m o e,.inl e⟩⟩
theorem R9.put {n:Nat} {o:O} (nr:R9 h h2) (hn:n<h.next) (lo:Zx6 h.next o):R9 h (h2.put n o):=by
 refine⟨by rw[H.Zd]; exact nr.1,fun m o' e=>?_⟩
 rw[H.get_put] at e
 split at e
 ·rename_i hm
  subst hm
  cases e
  exact⟨hn,.inr lo⟩
 ·exact nr.2 m o' e
theorem Zfr.flat {b:Nat} (e:v.flat=true):Zfr b v:=fun τ _=>V.Jl e τ
theorem Zy.settle (c:Zy K P f args h v h1) (nr:R9 h h2) (hv:Zfr h.next v) (hk:∀ m,m<h.next→h1.get m=h2.get m):Zy K P f args h v h2:=by
 obtain⟨hn,nr⟩:=nr
 have hτ:∀ m,m<h.next→(if m<h.next then m else h1.next+m)=m:=fun m hm=>if_pos hm
 refine c.Zde (τ:=fun m=>if m<h.next then m else h1.next+m) hτ (fun m hm=>?_) (Nat.le_of_eq hn.symm) (hv _ hτ) (fun m o ho=>?_) (fun m m' o o' ho ho' hne=>?_)
 ·show h1.next≤if m<h.next then m else h1.next+m
  rw[if_neg (by omega)]
  omega
 ·obtain⟨lm,a|⟨s,r,q⟩⟩:=nr m o ho
  ·exact .inl ⟨a,by rw[hk m lm]; exact ho⟩
  ·refine .inr ⟨s,r,?_⟩
   show h1.get (if m<h.next then m else h1.next+m)=some (o.ren _)
   rw[hτ m lm,q _ hτ,hk m lm]
   exact ho
 ·have e1:=(nr m o ho).1
  have e2:=(nr m' o' ho').1
  show (if m<h.next then m else _)≠(if m'<h.next then m' else _)
  rw[if_pos e1,if_pos e2]
  exact hne
abbrev Dg:=List (Int × List C)
def Oe (l:Dg):List (W × W):=l.map fun p=>(.c (.int .i64 p.1),.g p.2)
def Jt (b:Int):Dg→Option (List C)
 | []=>none
 | (k,x) :: l=>bif b == k then some x else Jt b l
def Dw (b:Int) (x:List C):Dg→Dg
 | []=>[(b,x)]
 | (k,y) :: l=>bif b == k then (b,x) :: l else (k,y) :: Dw b x l
def Zii (b:Int):Dg→Dg
 | []=>[]
 | (k,y) :: l=>bif b == k then l else (k,y) :: Zii b l
def gOf:Option (List C)→Option W
 | some x=>some (.g x)
 | none=>none
theorem Zij (kt:TypeId) (b:Int):∀ l:Dg,Zfo K kt (.c (.int .i64 b)) (Oe l)=some (gOf (Jt b l))
 | []=>rfl
 | (k,x) :: l=>by
  show (match (if IntKind.i64=IntKind.i64 then some (b == k) else none) with
   | none=>none
   | some true=>some (some (W.g x))
   | some false=>Zfo K kt (.c (.int .i64 b)) (Oe l))=_
  rw[if_pos rfl]
  show _=some (gOf (bif b == k then some x else Jt b l))
  cases b == k with
  | true=>rfl
  | false=>exact Zij kt b l
theorem Zka (kt:TypeId) (b:Int) (x:List C):∀ l:Dg,Zsg K kt (.c (.int .i64 b)) (.g x) (Oe l)=some (Oe (Dw b x l))
 | []=>rfl
 | (k,y) :: l=>by
  show (match (if IntKind.i64=IntKind.i64 then some (b == k) else none) with
   | none=>none
   | some true=>some ((W.c (.int .i64 b),W.g x) :: Oe l)
   | some false=>match Zsg K kt (.c (.int .i64 b)) (.g x) (Oe l) with
    | none=>none
    | some l'=>some ((W.c (.int .i64 k),W.g y) :: l'))=_
  rw[if_pos rfl]
  show _=some (Oe (bif b == k then (b,x) :: l else (k,y) :: Dw b x l))
  cases b == k with
  | true=>rfl
  | false=>simp only; rw[Zka kt b x l]; rfl
theorem Zli (kt:TypeId) (b:Int):∀ l:Dg,Zqh K kt (.c (.int .i64 b)) (Oe l)=some (Oe (Zii b l))
 | []=>rfl
 | (k,y) :: l=>by
  show (match (if IntKind.i64=IntKind.i64 then some (b == k) else none) with
   | none=>none
   | some true=>some (Oe l)
   | some false=>match Zqh K kt (.c (.int .i64 b)) (Oe l) with
    | none=>none
    | some l'=>some ((W.c (.int .i64 k),W.g y) :: l'))=_
  rw[if_pos rfl]
  show _=some (Oe (bif b == k then l else (k,y) :: Zii b l))
  cases b == k with
  | true=>rfl
  | false=>simp only; rw[Zli kt b l]; rfl
theorem Zgy (l:Dg):(Oe l).length=l.length:=List.length_map ..
theorem Rc (b k:Int) (x:List C):∀ l:Dg,Jt b (Dw k x l)=if b=k then some x else Jt b l
 | []=>by
  show (bif b == k then some x else none)=_
  by_cases e:b=k
  ·rw[if_pos e,Za7 e]; rfl
  ·rw[if_neg e,Ee e]; rfl
 | (j,y) :: l=>by
  show Jt b (bif k == j then (k,x) :: l else (j,y) :: Dw k x l)=if b=k then some x else (bif b == j then some y else Jt b l)
  by_cases e:k=j
  ·subst e
   rw[Za7 rfl,cond_true]
   show (bif b == k then some x else Jt b l)=_
   by_cases e:b=k
   ·rw[if_pos e,Za7 e]; rfl
   ·rw[if_neg e,Ee e]; rfl
  ·rw[Ee e,cond_false]
   show (bif b == j then some y else Jt b (Dw k x l))=_
   rw[Rc b k x l]
   by_cases e2:b=j
   ·rw[Za7 e2,cond_true,cond_true,if_neg (by omega)]
   ·rw[Ee e2,cond_false,cond_false]
def Bg (l:Dg):Bool:=l.all fun p=>p.2.all C.flat
theorem Dh {b:Int} {x:List C} (hx:x.all C.flat=true):∀ {l:Dg},Bg l=true→Bg (Dw b x l)=true
 | [],_=>by show (x.all C.flat&&true)=true; rw[hx]; rfl
 | (k,y) :: l,h=>by
  have h':(y.all C.flat&&Bg l)=true:=h
  rw[Bool.and_eq_true] at h'
  show Bg (bif b == k then (b,x) :: l else (k,y) :: Dw b x l)=true
  cases b == k with
  | true=>show (x.all C.flat&&Bg l)=true; rw[hx,h'.2]; rfl
  | false=>show (y.all C.flat&&Bg (Dw b x l))=true; rw[h'.1,Dh hx h'.2]; rfl
theorem Zgz {b:Int}:∀ {l:Dg},Bg l=true→Bg (Zii b l)=true
 | [],_=>rfl
 | (k,y) :: l,h=>by
  have h':(y.all C.flat&&Bg l)=true:=h
  rw[Bool.and_eq_true] at h'
  show Bg (bif b == k then l else (k,y) :: Zii b l)=true
  cases b == k with
  | true=>exact h'.2
  | false=>show (y.all C.flat&&Bg (Zii b l))=true; rw[h'.1,Zgz h'.2]; rfl
theorem Nr {b:Nat} {l:Dg} (h:Bg l=true):Zx6 b (.map (Oe l)):=by
 refine⟨rfl,rfl,fun τ _=>?_⟩
 show O.map ((Oe l).map (Yai τ))=_
 congr 1
 rw[Oe,List.map_map]
 refine List.map_congr_left fun p hp=>?_
 show (W.c (.int .i64 p.1),(W.g p.2).ren τ)=_
 rw[W.Jl (x:=.g p.2) (List.all_eq_true.1 h p hp)]
theorem Zl8 {b sz:Nat} {els:List (List C)} (h:∀ τ:Nat→Nat,(∀ m,m<b→τ m=m)→els.map (List.map (C.ren τ))=els):Zx6 b (.row sz els false) :=
 ⟨rfl,rfl,fun τ hτ=>by show O.row sz (els.map (List.map (C.ren τ))) false=_; rw[h τ hτ]⟩
def Qd:List (W × W)→Option Dg
 | []=>some []
 | (.c (.int .i64 k),.g x) :: l=>match Qd l with
  | some r=>some ((k,x) :: r)
  | none=>none
 | _=>none
theorem Zfe:∀ {l:List (W × W)} {r:Dg},Qd l=some r→l=Oe r
 | [],r,e=>by cases e; rfl
 | (a,x) :: l,r,e=>by
  unfold Qd at e
  split at e
  ·rename_i heq; cases heq
  ·rename_i k x' l' heq
   cases heq
   split at e
   ·rename_i r' hr
    cases e
    rw[Zfe hr]
    rfl
   ·cases e
  ·cases e
theorem Zfc:∀ l:Dg,Qd (Oe l)=some l
 | []=>rfl
 | (k,x) :: l=>by
  show (match Qd (Oe l) with
   | some r=>some ((k,x) :: r)
   | none=>none)=_
  rw[Zfc l]
noncomputable def getM (h:H) (n:Nat):Option Dg:=match h.get n with
 | some (.map es)=>Qd es
 | _=>none
theorem getM_some {n:Nat} {l:Dg} (e:getM h n=some l):h.get n=some (.map (Oe l)):=by
 unfold getM at e
 split at e
 ·rename_i es he
  rw[he,Zfe e]
 ·cases e
theorem Fz {sz:Nat} {x:List C} (h:x.length≤sz∧sz≤x.length∧0<sz):Zn sz [x] 0 sz=some x:=by
 obtain rfl:sz=x.length:=by omega
 exact Qj h.2.2
theorem Zo8 {sz n:Nat} {x:List C} (h:x.length≤sz∧sz≤x.length∧0<n∧n≤sz):Zn sz [x] 0 n=some (x.take n):=by
 obtain rfl:sz=x.length:=by omega
 have e:Nat.beq n 0=false:=Nn (by omega)
 simp only[Zn,Nat.zero_div,Nat.zero_mod,List.getElem?_cons_zero,List.drop_zero,Nat.zero_add,e,cond_false]
 rw[Nat.ble_eq_true_of_le h.2.2.2]
 rfl
theorem Zru {sz off n:Nat} {x:List C} (h:off+n≤sz∧x.length≤sz∧sz≤x.length∧0<n):Zn sz [x] off n=some ((x.drop off).take n):=by
 obtain rfl:sz=x.length:=by omega
 have e:Nat.beq n 0=false:=Nn (by omega)
 have e1:off / x.length=0:=Nat.div_eq_of_lt (by omega)
 have e2:off % x.length=off:=Nat.mod_eq_of_lt (by omega)
 simp only[Zn,e1,e2,List.getElem?_cons_zero,e,cond_false]
 rw[Nat.ble_eq_true_of_le (by omega)]
 rfl
theorem Su {sz:Nat} {l l':List C} (h:l'.length≤sz∧sz≤l'.length∧l.length≤sz∧sz≤l.length∧0<sz):Z4 sz [l] 0 l'=some [l']:=by
 obtain rfl:sz=l'.length:=by omega
 exact Xg h.2.2.2.2 (by omega)
theorem Zyt {z x:List C} {n:Nat} (h:x.length≤n∧n≤x.length∧n≤z.length):Fq z 0 n (.g x)=some (x++z.drop n):=by
 unfold Fq
 rw[Zus,Z7h (by omega),Nj (by omega),Bool.and_self,cond_true,List.take_zero,List.nil_append,Nat.zero_add]
end
attribute [go_sem] Su Fz
attribute [go_sem] Z52 Z6z Zxy Zw1 Zij Zka Zli Zgy Zfc getM Option.bind_some gOf
attribute [go_sem] V8 Ex Ze0 entriesOf found Si Wu Yf
end Go.Ev
/- A call that the kernel runs in a small memory, of one row that it writes. -/
namespace Go.Ev
open Go.RowKit
section
variable {α:Type}
theorem Tree.Zgv (x y:Option α):∀ (f k:Nat),k<f→Tree.upd x (Tree.path y f k) k=Tree.path x f k
 | 0,_,h=>by omega
 | f+1,k,h=>by
  rw[Tree.Zet,Tree.Zet]
  split
  ·rename_i hk
   rw[Tree.F6,if_pos hk]
  ·rename_i hk
   split
   ·rename_i ho
    rw[Tree.F6,if_neg hk,if_pos ho,Tree.Zgv x y f (k / 2) (by omega)]
   ·rename_i ho
    rw[Tree.F6,if_neg hk,if_neg ho,Tree.Zgv x y f (k / 2 - 1) (by omega)]
theorem Tree.Zng (x y:Option α):∀ (t:Tree α) (k:Nat),Tree.upd x (Tree.upd y t k) k=Tree.upd x t k
 | .nil,k=>by rw[Tree.Zmf,Tree.Zmf,Tree.Zgv x y (k+1) k (by omega)]
 | .node v l r,k=>by
  rw[Tree.F6,Tree.F6]
  split
  ·rename_i hk
   rw[Tree.F6,if_pos hk]
  ·rename_i hk
   split
   ·rename_i ho
    rw[Tree.F6,if_neg hk,if_pos ho,Tree.Zng x y l (k / 2)]
   ·rename_i ho
    rw[Tree.F6,if_neg hk,if_neg ho,Tree.Zng x y r (k / 2 - 1)]
end
theorem H.Zal (h:H) (n:Nat) (a b:O):(h.put n a).put n b=h.put n b:=by
 show (⟨Tree.upd (some b) (Tree.upd (some a) h.m n) n,h.next⟩:H)=⟨Tree.upd (some b) h.m n,h.next⟩
 rw[Tree.Zng]
noncomputable def Yaa (m:Nat):Option Out→Option (V × Option O)
 | some (.val v h)=>some (v,h.get m)
 | _=>none
theorem Zx1 {o:Option Out} {m:Nat} {v:V} {r:Option O} (h:Yaa m o=some (v,r)):∃ h',o=some (.val v h')∧h'.get m=r:=by
 unfold Yaa at h
 split at h
 ·cases h; exact⟨_,rfl,rfl⟩
 ·cases h
section
variable {K:Cfg} {P:Program} {Y:Kn} {f:FuncId} {args:List W} {v:V}
theorem Zy.Zuy (F:Fits K P) (Hh:Hearts K P) (hY:Zev K P Y) {G:Nat} (hg:K.globs=Tree.set .nil G 0) {n sz:Nat} {els els':List (List C)} {us:List W} (e:Yaa 1 (evX K Y n (.call f (.c (.ptr 1 0) :: us) ⟨.node none (.node (some (.row sz els false)) .nil .nil) .nil,2⟩))=some (v,some (.row sz els' false))) (ha:us.all W.flat=true) (he:els.all (fun l=>l.all C.flat)=true) (he':els'.all (fun l=>l.all C.flat)=true) (hv:v.flat=true) (h:H) (m:Nat) (hm:h.get m=some (.row sz els false)):Zy K P f (.c (.ptr m 0) :: us) h v (h.put m (.row sz els' false)):=by
 obtain⟨h1,e1,e2⟩:=Zx1 e
 have c0:=(Nz F Hh hY n).call f _ _ _ _ e1
 refine Zy.pos c0.1 (Zje hg) fun hpos=>Zy.tidy c0.1 fun tidy=>?_
 have hml:=tidy _ _ hm
 have only:∀ n o,(⟨.node none (.node (some (.row sz els false)) .nil .nil) .nil,2⟩:H).get n=some o→n=1∧o=.row sz els false:=fun n o hn=>by
  have hn':(Tree.node none (.node (some (O.row sz els false)) .nil .nil) .nil).get n=some o:=hn
  rw[Tree.Gb] at hn'
  split at hn'
  ·cases hn'
  ·split at hn'
   ·rw[Tree.Gb] at hn'
    split at hn'
    ·cases hn'; exact⟨by omega,rfl⟩
    ·split at hn'<;>(rw[Tree.Bz] at hn'; cases hn')
   ·rw[Tree.Bz] at hn'; cases hn'
 have fl:∀ (L:List (List C)),L.all (fun l=>l.all C.flat)=true→∀ σ:Nat→Nat,(O.row sz L false).ren σ=.row sz L false:=fun L hL σ=>by
  show O.row sz (L.map (List.map (C.ren σ))) false=_
  rw[Ub (fun l hl=>Ub (fun a ha=>C.Jl ha _) hl) hL]
 have L:Lies K (fun n=>if n<1 then n else if n<2 then m else h.next+(n - 2)) ⟨.node none (.node (some (.row sz els false)) .nil .nil) .nil,2⟩ h:=by
  refine⟨fun n hn=>?_,fun n hn=>?_,fun n o ho=>?_,fun n n' o o' ho ho' hne=>?_,fun g n hgn=>?_⟩
  ·have:2≤n:=hn
   show (if n<1 then n else if n<2 then m else h.next+(n - 2))=h.next+(n - 2)
   rw[if_neg (by omega),if_neg (by omega)]
  ·have:n<2:=hn
   show (if n<1 then n else if n<2 then m else _)<h.next
   by_cases h1:n<1
   ·rw[if_pos h1]; omega
   ·rw[if_neg h1,if_pos (by omega)]; exact hml
  ·obtain⟨rfl,rfl⟩:=only n o ho
   exact⟨rfl,_,hm,.inl (fl _ he _).symm⟩
  ·exact absurd ((only n o ho).1.trans (only n' o' ho').1.symm) hne
  ·rw[(Vj hg hgn).2]; rfl
 have c1:=Zy.frame c0 L (h':=⟨(h.put m (.row sz els' false)).m,h.next+(h1.next - 2)⟩) ⟨rfl,fun k o ho=>by
  have ho':(h.put m (.row sz els' false)).get k=some o:=ho
  rw[H.get_put] at ho'
  split at ho'
  ·rename_i hk
   cases ho'
   exact .inr ⟨1,_,e2,rfl,rfl,by show (if (1:Nat)<1 then 1 else if (1:Nat)<2 then m else _)=k; rw[if_neg (by omega),if_pos (by omega),hk],(fl _ he' _).symm⟩
  ·rename_i hk
   refine .inl ⟨ho',fun n o' ho2 e3=>?_⟩
   obtain⟨rfl,_⟩:=only n o' ho2
   exact absurd (show k=m from e3.symm) hk⟩
 rw[List.map_cons,Ub (fun a ha=>W.Jl ha _) ha,V.Jl hv] at c1
 exact c1.settle ((R9.refl tidy).put hml ⟨rfl,rfl,fun τ _=>fl _ he' τ⟩) (Zfr.flat hv) fun k _=>rfl
end
section
variable {K:Cfg} {P:Program} {n:Nat} {rd:Option Nat} {b:Code} {ds ds1:List Nat} {ts ts1:Zx} {h h1:H} {Q:X→List Nat→Zx→H→Prop} {id:Nat}
theorem Yi.Zws {id':Nat} (a1:Yi K P n rd b ds ts h (.exit id') ds1 ts1 h1) (hne:¬id'=id):Yi K P n rd (.block id b) ds ts h (.exit id') ds1 ts1 h1:=by
 intro D ρ w a r m hr hd ht hm hrd
 refine wpIn_block (wpIn_mono (a1 D ρ w a r m hr hd ht hm hrd) ?_)
 rintro e a1 w1 ⟨rfl,rest⟩
 show Exit.inBlock id _ (.exit id') a1 w1
 simp only[Exit.inBlock,if_neg hne]
 exact⟨rfl,rest⟩
theorem Wn (g:Goes K P n rd b ds ts h fun x ds ts h=>match x with
  | .normal=>Q .normal ds ts h
  | .ret=>Q .ret ds ts h
  | .exit id'=>if id'=id then Q .normal ds ts h else Q (.exit id') ds ts h):Goes K P n rd (.block id b) ds ts h Q:=by
 obtain⟨x,ds',ts',h',g1,g2⟩:=g
 cases x with
 | normal=>exact⟨_,_,_,_,Yi.block g1,g2⟩
 | ret=>exact⟨_,_,_,_,Yi.Zkf g1,g2⟩
 | exit id' =>
  simp only at g2
  split at g2
  ·rename_i e
   subst e
   exact⟨_,_,_,_,Yi.Zgw g1,g2⟩
  ·rename_i e
   exact⟨_,_,_,_,Yi.Zws g1 e,g2⟩
end
end Go.Ev
/- A range's rounds, all of them, known by one evaluator. -/
namespace Go.Ev
open Go.RowKit
section
variable {K:Cfg} {P:Program} {n:Nat} {rd:Option Nat}
theorem Uc {c:Code} {ds:List Nat} {ts:Zx} {h:H} {Q:X→List Nat→Zx→H→Prop} (g:∀ h',h'=h→Goes K P n rd c ds ts h' Q):Goes K P n rd c ds ts h Q:=g h rfl
open Classical in
noncomputable def EC (E:Task→Option Out) (c:Code) (n:Nat) (rd:Option Nat) (Pr:Zx→H→Prop) (F:Zx→H→X × List Nat × Zx × H):Task→Option Out:=fun t=>match t with
 | .code c' n' rd' ds ts h=>if c'=c∧n'=n∧rd'=rd∧ds=[]∧Pr ts h then some (.at (F ts h).1 (F ts h).2.1 (F ts h).2.2.1 (F ts h).2.2.2) else E t
 | t=>E t
theorem Zpp {E:Task→Option Out} (S:Sound K P E) {c:Code} {Pr:Zx→H→Prop} {F:Zx→H→X × List Nat × Zx × H} (k:∀ ts h,Pr ts h→Yi K P n rd c [] ts h (F ts h).1 (F ts h).2.1 (F ts h).2.2.1 (F ts h).2.2.2):Sound K P (EC E c n rd Pr F):=by
 refine⟨fun f us k0 u k' he=>?_,fun c2 n2 rd2 ds2 ts2 h2 x2 ds3 ts3 h3 he=>?_,fun t o he=>?_⟩
 ·exact S.call f us k0 u k' he
 ·simp only[EC] at he
  split at he
  ·rename_i q
   obtain⟨rfl,rfl,rfl,rfl,p⟩:=q
   cases he
   exact k ts2 h2 p
  ·exact S.code c2 n2 rd2 ds2 ts2 h2 x2 ds3 ts3 h3 he
 ·cases t with
  | call f us k=>exact S.shape _ o he
  | code c2 n2 rd2 ds2 ts2 h2 =>
   simp only[EC] at he
   split at he
   ·cases he
    exact .inr ⟨_,_,_,_,_,_,_,_,_,_,rfl,rfl⟩
   ·exact S.shape _ o he
theorem Zvd (E:Task→Option Out) (c:Code) (n:Nat) (rd:Option Nat) {Pr:Zx→H→Prop} (F:Zx→H→X × List Nat × Zx × H) {ts:Zx} {h:H} (p:Pr ts h):EC E c n rd Pr F (.code c n rd [] ts h)=some (.at (F ts h).1 (F ts h).2.1 (F ts h).2.2.1 (F ts h).2.2.2):=by
 simp [EC,p]
theorem Z6c {E:Task→Option Out} {c c2:Code} {Pr:Zx→H→Prop} {F:Zx→H→X × List Nat × Zx × H} (ne:c2≠c) (n2:Nat) (rd2:Option Nat) (ds2:List Nat) (ts2:Zx) (h2:H):EC E c n rd Pr F (.code c2 n2 rd2 ds2 ts2 h2)=E (.code c2 n2 rd2 ds2 ts2 h2):=by
 simp [EC,ne]
open Classical in
noncomputable def T9 {Q:Zx→H→X→List Nat→Zx→H→Prop} {Pr:Zx→H→Prop} {c:Code} (g:∀ ts h,Pr ts h→Goes K P n rd c [] ts h (Q ts h)) (ts:Zx) (h:H):X × List Nat × Zx × H :=
 if p:Pr ts h then ((g ts h p).ex.choose,(g ts h p).ex.choose_spec.choose,(g ts h p).ex.choose_spec.choose_spec.choose,(g ts h p).ex.choose_spec.choose_spec.choose_spec.choose) else (.normal,[],ts,h)
theorem Zb1 {Q:Zx→H→X→List Nat→Zx→H→Prop} {Pr:Zx→H→Prop} {c:Code} (g:∀ ts h,Pr ts h→Goes K P n rd c [] ts h (Q ts h)) {ts:Zx} {h:H} (p:Pr ts h) :
  Yi K P n rd c [] ts h (T9 g ts h).1 (T9 g ts h).2.1 (T9 g ts h).2.2.1 (T9 g ts h).2.2.2∧Q ts h (T9 g ts h).1 (T9 g ts h).2.1 (T9 g ts h).2.2.1 (T9 g ts h).2.2.2:=by
 have e:T9 g ts h=((g ts h p).ex.choose,(g ts h p).ex.choose_spec.choose,(g ts h p).ex.choose_spec.choose_spec.choose,(g ts h p).ex.choose_spec.choose_spec.choose_spec.choose):=by unfold T9; rw[dif_pos p]
 rw[e]
 exact (g ts h p).ex.choose_spec.choose_spec.choose_spec.choose_spec
theorem rounds {l:Nat} {assign body:Code} (ne:assign≠body) {PA PB:Zx→H→Prop} {QA:Zx→Zx→Prop} {QB:Zx→H→H→Prop}
  (hA:∀ ts h,PA ts h→Goes K P n (some l) assign [] ts h fun x ds' ts' h'=>x=.normal∧ds'=[]∧h'=h∧QA ts ts')
  (hB:∀ ts h,PB ts h→Goes K P n (some l) body [] ts h fun x _ _ h'=>x=.normal∧QB ts h h') :
  ∃ E,Sound K P E∧∀ (us:List W) (h:H) (lts ts1:Zx) (ps:List Tmp) (d:Nat),h.get l=some (.loop lts n ps assign body .ready none d)→U4 n ps us lts=some ts1→PA ts1 h →
   (∀ ts',QA ts1 ts'→PB ts' (h.put l (.loop lts n ps assign body .busy none d))) →
   ∃ ts' h',QA ts1 ts'∧QB ts' (h.put l (.loop lts n ps assign body .busy none d)) h' ∧
    (h'.get l=some (.loop lts n ps assign body .busy none d)→Jz E l (some us) h (some (.loop lts n ps assign body .ready none d))=some (.val (.w (.c (.bool true))) (h'.put l (.loop lts n ps assign body .ready none d)))):=by
 have SA:=Zpp (E:=E0) (K:=K) (P:=P) Za fun ts h p=>(Zb1 hA p).1
 have SB:=Zpp SA fun ts h p=>(Zb1 hB p).1
 refine⟨_,SB,fun us h lts ts1 ps d hl hz pa pb=>?_⟩
 obtain⟨kA,a1,a2,a3,a4⟩:=Zb1 hA pa
 have pB:=pb _ a4
 obtain⟨kB,b1,b2⟩:=Zb1 hB pB
 refine⟨_,_,a4,b2,fun hl2=>?_⟩
 have r:=Lg (E:=EC (EC E0 assign n (some l) PA (T9 hA)) body n (some l) PB (T9 hB)) hl hz (ds1:=[]) (ts2:=(T9 hA ts1 h).2.2.1) (h1:=h) (by
  rw[Z6c ne,Zvd _ _ _ _ _ pa,a1,a2,a3]) hl (x:=.normal) (by
  rw[Zvd _ _ _ _ _ pB,b1]) hl2
 rw[hl] at r
 exact r
end
end Go.Ev
/- Runs in pieces: what a call leaves is laid down as a list of objects, and the next one begins there. -/
namespace Go.Ev
open Go.RowKit
noncomputable def mkT:List (Nat × O)→Tree O
 | []=>.nil
 | p :: l=>(mkT l).set p.1 p.2
noncomputable def mkH (l:List (Nat × O)) (next:Nat):H:=⟨mkT l,next⟩
noncomputable def Z6e (h:H):List Nat→Option (List (Nat × O))
 | []=>some []
 | n :: l=>match h.get n with
  | none=>none
  | some o=>match Z6e h l with
   | none=>none
   | some r=>some ((n,o) :: r)
def took1 (v:V) (h:H):Option (List (Nat × O))→Option (V × List (Nat × O) × Nat)
 | some l=>some (v,l,h.next)
 | none=>none
noncomputable def took (live:List Nat):Option Out→Option (V × List (Nat × O) × Nat)
 | some (.val v h)=>took1 v h (Z6e h live)
 | _=>none
theorem Zot {h:H}:∀ {l:List Nat} {r:List (Nat × O)},Z6e h l=some r→∀ p∈r,h.get p.1=some p.2
 | [],r,e=>by
  cases e
  intro p hp
  cases hp
 | n :: l,r,e=>by
  unfold Z6e at e
  split at e
  ·cases e
  ·rename_i o ho
   split at e
   ·cases e
   ·rename_i r' hr
    cases e
    intro p hp
    cases hp with
    | head=>exact ho
    | tail _ hp=>exact Zot hr p hp
theorem Zvt:∀ {l:List (Nat × O)} {n:Nat} {o:O},(mkT l).get n=some o→(n,o)∈l
 | [],n,o,e=>by
  have:(Tree.nil:Tree O).get n=some o:=e
  rw[Tree.Bz] at this
  cases this
 | p :: l,n,o,e=>by
  have e':((mkT l).set p.1 p.2).get n=some o:=e
  rw[Tree.X9] at e'
  split at e'
  ·rename_i hn
   cases e'
   subst hn
   exact List.mem_cons_self
  ·exact List.mem_cons_of_mem _ (Zvt e')
theorem Zzj {live:List Nat} {o:Option Out} {v:V} {l:List (Nat × O)} {next:Nat} (e:took live o=some (v,l,next)):∃ h,o=some (.val v h)∧h.next=next∧∀ n x,(mkH l next).get n=some x→h.get n=some x:=by
 unfold took at e
 split at e
 ·rename_i v' h
  unfold took1 at e
  split at e
  ·rename_i l' hl
   cases e
   exact⟨h,rfl,rfl,fun n x hx=>Zot hl _ (Zvt hx)⟩
  ·cases e
 ·cases e
section
variable {K:Cfg} {P:Program} {Y:Kn} {f:FuncId} {args:List W} {v:V}
theorem Zy.took (F:Fits K P) (Hh:Hearts K P) (hY:Zev K P Y) {n next:Nat} {h:H} {live:List Nat} {l:List (Nat × O)} (e:Go.Ev.took live (evX K Y n (.call f args h))=some (v,l,next)):Zy K P f args h v (mkH l next):=by
 obtain⟨h1,e1,e2,e3⟩:=Zzj e
 exact Zy.weak ((Nz F Hh hY n).call f args h v h1 e1) e2.symm e3
theorem Zy.Z6x {G:Nat} (hg:K.globs=Tree.set .nil G 0) {l:List C} {h1:H} (c0:Zy K P f args ⟨.node (some (.row 16 [l] true)) .nil .nil,1⟩ v h1) (hl:l.all C.flat=true) (ha:args.all W.flat=true) (hv:v.flat=true) (h:H) (hs:h.get 0=some (.row 16 [l] true)):Zy K P f args h v h:=by
 refine Zy.pos c0.1 (Zje hg) fun hpos=>Zy.tidy c0.1 fun tidy=>?_
 have only:∀ n o,(⟨.node (some (.row 16 [l] true)) .nil .nil,1⟩:H).get n=some o→n=0∧o=.row 16 [l] true:=fun n o hn=>by
  have hn':(Tree.node (some (O.row 16 [l] true)) .nil .nil).get n=some o:=hn
  rw[Tree.Gb] at hn'
  split at hn'
  ·cases hn'; exact⟨by omega,rfl⟩
  ·split at hn'<;>(rw[Tree.Bz] at hn'; cases hn')
 have fl:∀ σ:Nat→Nat,(O.row 16 [l] true).ren σ=.row 16 [l] true:=fun σ=>by
  show O.row 16 ([l].map (List.map (C.ren σ))) true=_
  rw[List.map_cons,List.map_nil,Ub (fun a ha=>C.Jl ha _) hl]
 have L:Lies K (fun n=>if n<1 then n else h.next+(n - 1)) ⟨.node (some (.row 16 [l] true)) .nil .nil,1⟩ h:=by
  refine⟨fun n hn=>if_neg (by have:1≤n:=hn; omega),fun n hn=>?_,fun n o ho=>?_,fun n n' o o' ho ho' hne=>?_,fun g n hgn=>?_⟩
  ·show (if n<1 then n else _)<h.next
   have:n<1:=hn
   rw[if_pos this]
   omega
  ·obtain⟨rfl,rfl⟩:=only n o ho
   exact⟨rfl,_,hs,.inl (fl _).symm⟩
  ·exact absurd ((only n o ho).1.trans (only n' o' ho').1.symm) hne
  ·rw[(Vj hg hgn).2]; rfl
 have c1:=c0.frame L (h':=⟨h.m,h.next+(h1.next - 1)⟩) ⟨rfl,fun m o ho=>.inl ⟨ho,fun n o' ho' _=>by rw[(only n o' ho').2]; rfl⟩⟩
 rw[Ub (fun a ha=>W.Jl ha _) ha,V.Jl hv] at c1
 exact c1.quiet hv fun m _=>rfl
theorem Zcg {G:Nat} (hg:K.globs=Tree.set .nil G 0) {W:World} {cs:Array Value} {t:TypeId} {fr:Nat × Nat} (hb:W.heap[G]? = some (.cells cs t fr)) (hcs:cs.toList=steps16.map (Value.int .u32))
  {h':H} (c:Zy K P f args Rj (.w (.c (.bool true))) h') {vals:List Value} (ha:Yr (Ju (Tn G)) args vals) :
  Calls P f vals.toArray W fun e W'=>e=.returned (.bool true)∧Below W.heap.size W W':=by
 have hd:Dom (Tn G) Rj.next:=fun n hn=>by
  have:n≠0:=by have:1≤n:=hn; omega
  simp [Tn,this]
 have:=c.2 (Tn G) W vals none 0 (Zd3 hg hb hcs) hd ha
 refine (callsIn_wide.1 (show CallsIn Fence.wide 0 P f vals.toArray W _ from this)).mono ?_
 rintro e W' ⟨ρ',val,rfl,aft,hv⟩
 have e:val=.bool true:=hv
 subst e
 refine⟨rfl,aft.fr.os,aft.fr.tape,aft.fr.output,aft.fr.size,fun k hk=>aft.fr.keep k hk ?_⟩
 rintro⟨m,o,l,ho,hro,_⟩
 obtain⟨rfl,rfl⟩:=Er ho
 cases hro
noncomputable def Zu1 (K:Cfg) (fn:Func) (o:Option Out):Bool:=match leave K fn o with
 | some (.val (.w (.c (.bool true))) _)=>true
 | _=>false
theorem Goes.Z0u (F:Fits K P) (Hh:Hearts K P) {Y:Kn} (hX:Zev K P Y) {k n:Nat} {rd:Option Nat} {fn:Func} {c:Code} {ds:List Nat} {ts:Zx} {h:H} (e:Zu1 K fn (evX K Y k (.code c n rd ds ts h))=true):Goes K P n rd c ds ts h fun x ds ts h1=>∃ v h',leave K fn (some (.at x ds ts h1))=some (.val v h')∧v=.w (.c (.bool true)):=by
 unfold Zu1 at e
 cases hx:evX K Y k (.code c n rd ds ts h) with
 | none=>rw[hx] at e; cases e
 | some o =>
  rw[hx] at e
  cases o with
  | val v h1=>cases e
  | «at» x ds' ts' h1 =>
   refine Goes.ev F Hh hX hx ?_
   split at e
   ·rename_i h2 hl
    exact⟨_,_,hl,rfl⟩
   ·cases e
end
end Go.Ev
/- A call that the kernel runs in the empty memory, whose answer leads to one new row: the same in every memory. -/
namespace Go.Ev
noncomputable def Gv:Option Out→Option (Int × List (List C))
 | some (.val (.tup [.c (.int .i64 p),.c s,.c (.int .i64 0)]) h)=>match s with
  | .snil=>some (p,[])
  | .slice n 0 len 1=>match h.get n with
   | some (.row 1 els false)=>bif Nat.ble 1 n&&Nat.blt n h.next&&Nat.ble 1 els.length&&Nat.beq els.length len&&els.all (fun l=>l.all C.flat) then some (p,els) else none
   | _=>none
  | _=>none
 | _=>none
theorem Zwy {o:Option Out} {p:Int} {els:List (List C)} (e:Gv o=some (p,els)):∃ h s,o=some (.val (.tup [.c (.int .i64 p),.c s,.c (.int .i64 0)]) h)∧((els=[]∧s=.snil)∨∃ n,1≤n∧n<h.next∧s=.slice n 0 els.length 1∧h.get n=some (.row 1 els false)∧els.all (fun l=>l.all C.flat)=true∧1≤els.length):=by
 unfold Gv at e
 split at e
 ·rename_i p' s h
  split at e
  ·cases e; exact⟨h,.snil,rfl,.inl ⟨rfl,rfl⟩⟩
  ·rename_i n len
   split at e
   ·rename_i els' ho
    cases hb:(Nat.ble 1 n&&Nat.blt n h.next&&Nat.ble 1 els'.length&&Nat.beq els'.length len&&els'.all (fun l=>l.all C.flat)) with
    | false=>rw[hb] at e; cases e
    | true =>
     rw[hb] at e
     cases e
     simp only[Bool.and_eq_true] at hb
     obtain⟨⟨⟨⟨b1,b2⟩,b3⟩,b4⟩,b5⟩:=hb
     obtain rfl:=Nat.eq_of_beq_eq_true b4
     exact⟨h,_,rfl,.inr ⟨n,Nat.le_of_ble_eq_true b1,by simpa [Nat.blt_eq] using b2,rfl,ho,b5,Nat.le_of_ble_eq_true b3⟩⟩
   ·cases e
  ·cases e
 ·cases e
section
variable {K:Cfg} {P:Program} {Y:Kn} {f:FuncId} {args:List W}
theorem Zy.Z5h (F:Fits K P) (Hh:Hearts K P) (hY:Zev K P Y) {G:Nat} (hg:K.globs=Tree.set .nil G 0) {n:Nat} {p:Int} {els:List (List C)} (e:Gv (evX K Y n (.call f args ⟨.nil,1⟩))=some (p,els)) (ha:args.all W.flat=true) (h:H) (hpos:0<h.next) :
  ∃ h' s,Zy K P f args h (.tup [.c (.int .i64 p),.c s,.c (.int .i64 0)]) h'∧h.next≤h'.next∧(∀ m,m<h.next→h'.get m=h.get m)∧((els=[]∧s=.snil)∨∃ q,h.next≤q∧q<h'.next∧s=.slice q 0 els.length 1∧h'.get q=some (.row 1 els false)∧1≤els.length):=by
 obtain⟨h1,s,e1,hs⟩:=Zwy e
 have c0:Zy K P f args ⟨.nil,1⟩ (.tup [.c (.int .i64 p),.c s,.c (.int .i64 0)]) h1:=(Nz F Hh hY n).call f args _ _ _ e1
 have none0:∀ n o,¬ (⟨.nil,1⟩:H).get n=some o:=fun n o hn=>by cases hn
 have L:Lies K (fun n=>if n<1 then n else h.next+(n - 1)) ⟨.nil,1⟩ h:=by
  refine⟨fun n hn=>if_neg (by have:1≤n:=hn; omega),fun n hn=>?_,fun n o ho=>(none0 n o ho).elim,fun n n' o o' ho=>(none0 n o ho).elim,fun g n hgn=>?_⟩
  ·show (if n<1 then n else _)<h.next
   have:n<1:=hn
   rw[if_pos this]
   omega
  ·rw[(Vj hg hgn).2]; rfl
 rcases hs with ⟨rfl,rfl⟩|⟨k,k1,k2,rfl,ho,hfl,el⟩
 ·have c1:=c0.frame L (h':=⟨h.m,h.next+(h1.next - 1)⟩) ⟨rfl,fun m o ho=>.inl ⟨ho,fun n o' ho'=>(none0 n o' ho').elim⟩⟩
  rw[Ub (fun a ha=>W.Jl ha _) ha] at c1
  exact⟨⟨h.m,h.next+(h1.next - 1)⟩,.snil,c1,Nat.le_add_right _ _,fun m _=>rfl,.inl ⟨rfl,rfl⟩⟩
 ·have fl:∀ σ:Nat→Nat,(O.row 1 els false).ren σ=.row 1 els false:=fun σ=>by
   show O.row 1 (els.map (List.map (C.ren σ))) false=_
   rw[Ub (fun l hl=>Ub (fun a ha=>C.Jl ha _) hl) hfl]
  have sk:(if k<1 then k else h.next+(k - 1))=h.next+(k - 1):=if_neg (by omega)
  have c1:=c0.frame L (h':=(⟨h.m,h.next+(h1.next - 1)⟩:H).put (h.next+(k - 1)) (.row 1 els false)) ⟨rfl,fun m o ho'=>by
   rw[H.get_put] at ho'
   split at ho'
   ·rename_i hm
    cases ho'
    exact .inr ⟨k,_,ho,rfl,rfl,by show (if k<1 then k else h.next+(k - 1))=m; rw[sk,hm],(fl _).symm⟩
   ·exact .inl ⟨ho',fun n o' ho2=>(none0 n o' ho2).elim⟩⟩
  rw[Ub (fun a ha=>W.Jl ha _) ha] at c1
  refine⟨(⟨h.m,h.next+(h1.next - 1)⟩:H).put (h.next+(k - 1)) (.row 1 els false),.slice (h.next+(k - 1)) 0 els.length 1,?_,Nat.le_add_right h.next _,fun m hm=>by rw[Ze (by omega)]; rfl,.inr ⟨h.next+(k - 1),Nat.le_add_right _ _,by rw[H.Zd]; show h.next+(k - 1)<h.next+(h1.next - 1); omega,rfl,Zz ..,el⟩⟩
  have ev:(V.tup [.c (.int .i64 p),.c (.slice k 0 els.length 1),.c (.int .i64 0)]).ren (fun n=>if n<1 then n else h.next+(n - 1))=.tup [.c (.int .i64 p),.c (.slice (h.next+(k - 1)) 0 els.length 1),.c (.int .i64 0)]:=by
   show V.tup [.c (.int .i64 p),.c (.slice (if k<1 then k else h.next+(k - 1)) 0 els.length 1),.c (.int .i64 0)]=_
   rw[sk]
  rw[ev] at c1
  exact c1
end
end Go.Ev
/- Functions of the library that change nothing, from the kit's contracts. -/
namespace Go.Ev
open Go.RowKit
section
variable {K:Cfg} {P:Program}
theorem Zy.Z6f {f:FuncId} {args:List W} {h:H} {v:V} (hc:Ga P f) (q:∀ ρ w vals,Rep K ρ h w→Yr (Ju ρ) args vals→∃ val,O5 ρ v val∧Calls P f vals.toArray w fun e w'=>e=.returned val∧w'=w):Zy K P f args h v h:=by
 refine⟨hc,fun ρ w vals r m hr hd ha=>?_⟩
 obtain⟨val,hv,k⟩:=q ρ w vals hr ha
 refine (V9 k).mono ?_
 rintro e w' ⟨rfl,rfl⟩
 exact⟨ρ,_,rfl,Aft.refl hr,hv⟩
end
end Go.Ev
/- Calls that give true, of arguments that lie in memory. -/
namespace Go.Ev
open Go.RowKit
section
variable {K:Cfg} {P:Program} {f:FuncId} {args:List W} {h h':H}
theorem Zcv {ρ:Ren} {W:World} (hr:Rep K ρ h W) (hd:Dom ρ h.next) (hro:∀ n o,h.get n=some o→o.ro=true) (c:Zy K P f args h (.w (.c (.bool true))) h') {vals:List Value} (ha:Yr (Ju ρ) args vals) :
  Calls P f vals.toArray W fun e W'=>e=.returned (.bool true)∧Below W.heap.size W W':=by
 have:=c.2 ρ W vals none 0 hr hd ha
 refine (callsIn_wide.1 (show CallsIn Fence.wide 0 P f vals.toArray W _ from this)).mono ?_
 rintro e W' ⟨ρ',val,rfl,aft,hv⟩
 have e:val=.bool true:=hv
 subst e
 refine⟨rfl,aft.fr.os,aft.fr.tape,aft.fr.output,aft.fr.size,fun k hk=>aft.fr.keep k hk ?_⟩
 rintro⟨m,o,l,ho,hr0,_⟩
 rw[hro m o ho] at hr0
 cases hr0
end
theorem Zlk {w:World} {base:Nat} {a:Addr} {n:Nat} {cs:List Value} (h:w.cells? base a n=some cs):cs.length=n∧∀ i,i<n→w.cell? (a.add i)=cs[i]?:=by
 unfold World.cells? at h
 split at h
 ·have hl:cs.length=n:=by simpa using mapM_some_length h
  refine⟨hl,fun i hi=>?_⟩
  exact mapM_some_get h i i (by simp [hi])
 ·cases h
end Go.Ev
/- What the cells of an argument are, told by its type: numbers, strings, truths, row by row. -/
namespace Go.Ev
open Go.ChangeShapes Go.WideShapes
inductive Kt where
 | int (k:IntKind)
 | bool
 | str
def Kt.has:Kt→Value→Prop
 | .int k,v=>∃ n,v=.int k n∧(Lit.int k n).wf=true
 | .bool,v=>∃ b,v=.bool b
 | .str,v=>∃ s:ByteArray,v=.string s
def Zw9 (l:List Kt):Nat→List Kt
 | 0=>[]
 | m+1=>l++Zw9 l m
def Zml (P:Program) (k:TypeId→Option (List Kt)):Nat→List Field→Option (List Kt)
 | _,[]=>some []
 | off,f :: fs=>match k f.type with
  | none=>none
  | some l=>bif Nat.beq f.offset off&&Nat.beq l.length (P.cellsOf f.type) then (match Zml P k (off+l.length) fs with
   | none=>none
   | some r=>some (l++r)) else none
def sized (n:Nat):Option (List Kt)→Option (List Kt)
 | some l=>bif Nat.beq l.length n then some l else none
 | none=>none
def Z3x (P:Program) (m:Nat) (e:TypeId):Option (List Kt)→Option (List Kt)
 | some l=>bif Nat.beq l.length (P.cellsOf e) then some (Zw9 l m) else none
 | none=>none
def kinds (P:Program):Nat→TypeId→Option (List Kt)
 | 0,_=>none
 | n+1,t=>match P.underlying t with
  | some .bool=>some [.bool]
  | some (.int k)=>some [.int k]
  | some .string=>some [.str]
  | some (.struct fs)=>sized (P.cellsOf t) (Zml P (kinds P n) 0 fs.toList)
  | some (.array m e)=>sized (P.cellsOf t) (Z3x P m e (kinds P n e))
  | _=>none
theorem Zho {n:Nat} {o:Option (List Kt)} {r:List Kt} (h:sized n o=some r):o=some r∧r.length=n:=by
 unfold sized at h
 split at h
 ·rename_i l
  cases hb:Nat.beq l.length n with
  | false=>rw[hb] at h; cases h
  | true=>rw[hb] at h; cases h; exact⟨rfl,Nat.eq_of_beq_eq_true hb⟩
 ·cases h
section
variable {P:Program} {cs:List Value}
theorem Ziq {k:TypeId→Option (List Kt)}:∀ {fs:List Field} {off:Nat} {r:List Kt},Zml P k off fs=some r→(∀ f∈fs,∀ l,k f.type=some l→Yr Kt.has l ((cs.drop f.offset).take (P.cellsOf f.type)))→cs.length=off+r.length→Yr Kt.has r (cs.drop off)
 | [],off,r,h,_,hl=>by
  cases h
  rw[List.drop_of_length_le (by simp at hl; omega)]
  trivial
 | f :: fs,off,r,h,hf,hl=>by
  unfold Zml at h
  split at h
  ·cases h
  ·rename_i l hk
   cases hb:(Nat.beq f.offset off&&Nat.beq l.length (P.cellsOf f.type)) with
   | false=>rw[hb] at h; cases h
   | true =>
    rw[hb] at h
    simp only[cond_true] at h
    simp only[Bool.and_eq_true] at hb
    have e1:=Nat.eq_of_beq_eq_true hb.1
    have e2:=Nat.eq_of_beq_eq_true hb.2
    split at h
    ·cases h
    ·rename_i r' hr
     cases h
     have h1:=hf f List.mem_cons_self l hk
     rw[e1,←e2] at h1
     have h2:=Ziq hr (fun g hg=>hf g (List.mem_cons_of_mem _ hg)) (by rw[hl,List.length_append]; omega)
     have e3:cs.drop off=(cs.drop off).take l.length++cs.drop (off+l.length):=by
      rw[←List.drop_drop,List.take_append_drop]
     rw[e3]
     exact h1.append h2
theorem Zo4 {l:List Kt}:∀ (m off:Nat),(∀ i,i<m→Yr Kt.has l ((cs.drop (off+i * l.length)).take l.length))→cs.length=off+(Zw9 l m).length→Yr Kt.has (Zw9 l m) (cs.drop off)
 | 0,off,_,hl=>by
  rw[List.drop_of_length_le (by simp [Zw9] at hl; omega)]
  trivial
 | m+1,off,h,hl=>by
  have h1:=h 0 (by omega)
  rw[Nat.zero_mul,Nat.add_zero] at h1
  have h2:=Zo4 (l:=l) m (off+l.length) (fun i hi=>by
   have:=h (i+1) (by omega)
   rwa [show off+(i+1) * l.length=off+l.length+i * l.length by rw[Nat.add_mul]; omega] at this) (by rw[hl,Zw9,List.length_append]; omega)
  have e3:cs.drop off=(cs.drop off).take l.length++cs.drop (off+l.length):=by
   rw[←List.drop_drop,List.take_append_drop]
  rw[e3]
  exact h1.append h2
theorem Qw {H:Type} {enc:TypeId × Value→H} {w:World} {base:Nat} {spare:Nat→Bool} {held:Bool}:∀ (n:Nat) {t:TypeId} {ks:List Kt} {fuel:Nat} {cs:List Value} {x:DataW H × List MemPlace},kinds P n t=some ks→DataW.trod enc P w base spare held fuel t cs=some x→Yr Kt.has ks cs
 | 0,t,ks,fuel,cs,x,h,_=>by cases h
 | n+1,t,ks,fuel,cs,x,h,hx=>by
  unfold kinds at h
  split at h
  ·rename_i ht
   cases h
   obtain⟨b,rfl,_⟩:=DataW.trod_bool ht hx
   exact⟨⟨b,rfl⟩,trivial⟩
  ·rename_i k ht
   cases h
   obtain⟨b,rfl,_,w⟩:=DataW.trod_int ht hx
   exact⟨⟨b,rfl,w⟩,trivial⟩
  ·rename_i ht
   cases h
   obtain⟨b,rfl,_⟩:=DataW.trod_string ht hx
   exact⟨⟨b,rfl⟩,trivial⟩
  ·rename_i fs ht
   obtain⟨h1,h2⟩:=Zho h
   obtain⟨xs,m,_,_,hl,hlen,hf⟩:=DataW.trod_struct ht hx
   refine Ziq (cs:=cs) (off:=0) h1 (fun f hm l hk=>?_) (by omega)
   obtain⟨i,hi⟩:=List.getElem?_of_mem hm
   have hi':fs[i]? = some f:=by rw[←Array.getElem?_toList]; exact hi
   have hlt:i<xs.length:=by
    rw[hlen]
    rcases Nat.lt_or_ge i fs.size with h3|h3
    ·exact h3
    ·rw[Array.getElem?_eq_none h3] at hi'; cases hi'
   have h4:=hf i f hi'
   rw[List.getElem?_eq_getElem hlt] at h4
   exact Qw n hk h4
  ·rename_i m e ht
   obtain⟨h1,h2⟩:=Zho h
   obtain⟨xs,q,_,_,hl,hlen,hf⟩:=DataW.trod_array ht hx
   unfold Z3x at h1
   split at h1
   ·rename_i l hk
    cases hb:Nat.beq l.length (P.cellsOf e) with
    | false=>rw[hb] at h1; cases h1
    | true =>
     rw[hb] at h1
     cases h1
     have e2:=Nat.eq_of_beq_eq_true hb
     have:=Zo4 (cs:=cs) (l:=l) m 0 (fun i hi=>?_) (by omega)
     ·exact this
     ·have h4:=hf i hi
      rw[List.getElem?_eq_getElem (by omega)] at h4
      rw[Nat.zero_add,e2]
      exact Qw n hk h4
   ·cases h1
  ·cases h
end
end Go.Ev
