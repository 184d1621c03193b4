/- The evaluator, its soundness and the calculus on its level: several texts in one. -/
import Derived.Test.YteiljiijagmonaaGreatDoorEvB
import Derived.Below
import Derived.OpenShut
import Derived.MakeChecks
import Derived.ChangeArms
import Derived.FnData
import Derived.Attr
import Derived.WideShapes
import Derived.Sort.MapsRangeIn
set_option linter.unusedSimpArgs false
set_option linter.unusedVariables false
set_option linter.unusedSectionVars false
namespace Go.Ev
open Go.RowKit Go.Maps
section
variable {K:Cfg} {P:Program} {ρ:Ren} {h h':H} {w w':World}
theorem Rep.newAt (hr:Rep K ρ h w) (hn:ρ h.next=none) (o:O) (g room:Nat) (hg:w.heap.size<=g) (hk:∀ k,k<w.heap.size->w'.heap[k]? = w.heap[k]?) (hs:w.heap.size<=w'.heap.size)
  (hor:Bv (ρ.set h.next ⟨g,0,room⟩) w' o ⟨g,0,room⟩) (h1:w'.os=w.os) (h2:w'.tape=w.tape) (h3:w'.output=w.output) (hro:o.ro=false:=by rfl) :
  Aft K ρ h w (ρ.set h.next ⟨g,0,room⟩) (h.new o) w':=by
 have hle:Ren.le ρ (ρ.set h.next ⟨g,0,room⟩):=Ren.Xe hn _
 have hold:∀ m x,m≠h.next->(h.new o).get m=some x->∃ lm,ρ m=some lm/\Bv ρ w x lm:=fun m x hm hx=>by
  rw[H.Zg,if_neg hm] at hx
  exact hr.obj m x hx
 refine⟨hle,New.set _ _ _,⟨fun g n hg=>?_,fun m x hx=>?_,fun m m' x x' lm lm' hne hx hx' hlm hlm'=>?_⟩,⟨h1,h2,h3,hs,fun k hk' _=>hk k hk',fun k hm=>?_,fun m x hx hxr=>?_⟩,Nat.le_succ _⟩
 ·obtain⟨r,hr'⟩:=hr.glob g n hg
  exact⟨r,hle _ _ hr'⟩
 ·by_cases e:m=h.next
  ·subst e
   rw[H.Zg,if_pos rfl] at hx
   cases hx
   exact⟨_,Ren.Y2 _ _ _,hor⟩
  ·obtain⟨lm,hlm,hrm⟩:=hold m x e hx
   exact⟨lm,hle _ _ hlm,(hrm.mono hle).congr (hk _ hrm.lt)⟩
 ·by_cases e:m=h.next
  ·subst e
   rw[Ren.Y2] at hlm
   cases hlm
   obtain⟨l2,hl2,hr2⟩:=hold m' x' (fun e=>hne e.symm) hx'
   rw[Ren.Lc _ _ (fun e=>hne e.symm),hl2] at hlm'
   cases hlm'
   have:=hr2.lt
   intro _
   simp only
   omega
  ·obtain⟨l1,hl1,hr1⟩:=hold m x e hx
   rw[Ren.Lc _ _ e,hl1] at hlm
   cases hlm
   by_cases e':m'=h.next
   ·subst e'
    rw[Ren.Y2] at hlm'
    cases hlm'
    have:=hr1.lt
    intro _
    simp only
    omega
   ·obtain⟨l2,hl2,hr2⟩:=hold m' x' e' hx'
    rw[Ren.Lc _ _ e',hl2] at hlm'
    cases hlm'
    rw[H.Zg,if_neg e] at hx
    rw[H.Zg,if_neg e'] at hx'
    exact hr.inj m m' x x' _ _ hne hx hx' hl1 hl2
 ·obtain⟨m,x,lm,hx,hxr,hlm,hkm⟩:=hm
  by_cases e:m=h.next
  ·subst e
   rw[Ren.Y2] at hlm
   cases hlm
   exact .inl (by simp only at hkm; omega)
  ·rw[H.Zg,if_neg e] at hx
   rw[Ren.Lc _ _ e] at hlm
   exact .inr ⟨m,x,lm,hx,hxr,hlm,hkm⟩
 ·rw[H.Zg] at hx
  split at hx
  ·cases hx
   rw[hro] at hxr
   cases hxr
  ·exact hx
theorem Rep.stay (hr:Rep K ρ h w) (hk:∀ k,k<w.heap.size->w'.heap[k]? = w.heap[k]?) (hs:w.heap.size<=w'.heap.size) (h1:w'.os=w.os) (h2:w'.tape=w.tape) (h3:w'.output=w.output):Aft K ρ h w ρ h w':=by
 refine⟨Ren.le.refl _,New.refl _ _ _,⟨hr.glob,fun m x hx=>?_,hr.inj⟩,⟨h1,h2,h3,hs,fun k hk' _=>hk k hk',fun k hm=>.inr hm,fun m x hx _=>hx⟩,Nat.le_refl _⟩
 obtain⟨lm,hlm,hrm⟩:=hr.obj m x hx
 exact⟨lm,hlm,hrm.congr (hk _ hrm.lt)⟩
theorem Zao (a:Int):∀ l:List Int,(Zbe a l).Perm (a :: l)
 | []=>List.Perm.refl _
 | b :: l=>by
  unfold Zbe
  split
  ·exact List.Perm.refl _
  ·exact ((Zao a l).cons b).trans (List.Perm.swap a b l)
theorem Qn (a:Int):∀ l:List Int,l.Pairwise (· <= ·)->(Zbe a l).Pairwise (· <= ·)
 | [],_=>by simp [Zbe]
 | b :: l,hl=>by
  unfold Zbe
  have hb:=List.pairwise_cons.1 hl
  split
  ·rename_i hab
   refine List.pairwise_cons.2 ⟨fun x hx=>?_,hl⟩
   rcases List.mem_cons.1 hx with rfl|hx
   ·exact hab
   ·exact Int.le_trans hab (hb.1 x hx)
  ·rename_i hab
   refine List.pairwise_cons.2 ⟨fun x hx=>?_,Qn a l hb.2⟩
   rcases List.mem_cons.1 ((Zao a l).mem_iff.1 hx) with rfl|hx
   ·omega
   ·exact hb.1 x hx
def Qp (e:MapEntry):Int:=match e.key with
 | .int _ n=>n
 | _=>0
theorem Sv:∀ (es:List (W × W)) (l:List Int) (xs:List MapEntry),Od es=some l->Yn (Zd1 ρ) es xs ->
  l.Pairwise (· <= ·)/\l.Perm (xs.map Qp)/\∀ e∈xs,∃ a:Int,e.key=.int .i64 a/\Dz a=true
 | [],l,[],hl,_=>by
  cases hl
  exact⟨List.Pairwise.nil,List.Perm.refl _,fun e he=>by cases he⟩
 | [],_,_ :: _,_,h=>h.elim
 | _ :: _,_,[],_,h=>h.elim
 | (k,v) :: es,l,x :: xs,hl,hx=>by
  unfold Od at hl
  split at hl
  ·rename_i e
   cases e
  ·rename_i a v' es' e
   cases e
   cases hf:Dz a with
   | false=>rw[hf] at hl; cases hl
   | true =>
    rw[hf] at hl
    simp only[cond_true] at hl
    split at hl
    ·cases hl
    ·rename_i r hr
     cases hl
     obtain⟨p1,p2,p3⟩:=Sv es r xs hr hx.2
     have hk:x.key=.int .i64 a:=hx.1.1
     refine⟨Qn a r p1,?_,fun e he=>?_⟩
     ·refine (Zao a r).trans ?_
      rw[List.map_cons]
      have:Qp x=a:=by simp [Qp,hk]
      rw[this]
      exact p2.cons a
     ·rcases List.mem_cons.1 he with rfl|he
      ·exact⟨a,hk,hf⟩
      ·exact p3 e he
  ·cases hl
theorem insert_perm {H:Type} (x:Lit × DataW H):∀ l:List (Lit × DataW H),(DataW.insert x l).Perm (x :: l)
 | []=>List.Perm.refl _
 | y :: r=>by
  unfold DataW.insert
  split
  ·exact List.Perm.refl _
  ·exact ((insert_perm x r).cons y).trans (List.Perm.swap x y r)
theorem Ry {H:Type}:∀ l:List (Lit × DataW H),(l.foldr DataW.insert []).Perm l
 | []=>List.Perm.refl _
 | x :: l=>(insert_perm x _).trans ((Ry l).cons x)
theorem Zuv (P:Program) (k:TypeId) (hk:P.underlying k=some (.int .i64)) {b clock:Nat} {xs:Array MapEntry} (hb:w.heap[b]? = some (.map xs clock)) (hborn:Born xs.toList clock) (hn:xs.size<=1000000)
  (hkeys:∀ e∈xs.toList,∃ a:Int,e.key=.int .i64 a/\Dz a=true) :
  ∃ D:DataW Nat,w.ownsMap P k (fun _=>some (.nil,[])) b xs.size D/\Maps.size D=xs.size/\(Go.intKeys D).Perm (xs.toList.map Qp):=by
 have hrd:∀ e∈xs.toList,WideElems.rd P k (fun _=>some ((.nil,[]):DataW Nat × List MemPlace)) e=some (.int .i64 (Qp e),.nil):=by
  intro e he
  obtain⟨a,ha,hf⟩:=hkeys e he
  have hwf:(Lit.int .i64 a).wf=true:=by
   simp [Dz] at hf
   simp [Lit.wf,IntKind.min,IntKind.max,IntKind.signed,IntKind.bits]
   omega
  simp [WideElems.rd,ha,keyOf,hk,mapKey,hwf,Qp]
 have hrg:xs.toList.map (WideElems.rg P k (fun _=>some ((.nil,[]):DataW Nat × List MemPlace)))=xs.toList.map (fun e=>(Lit.int .i64 (Qp e),(.nil:DataW Nat))):=by
  apply List.map_congr_left
  intro e he
  simp [WideElems.rg,hrd e he]
 have hp:=Ry (xs.toList.map (fun e=>(Lit.int .i64 (Qp e),(.nil:DataW Nat))))
 have hml:xs.size<=maxLen:=Nat.le_trans hn dM
 refine⟨_,⟨xs,clock,hb,⟨hml,⟨hborn.old,?_⟩,fun x hx=>⟨_,hrd x hx⟩⟩,Nat.le_refl _,rfl⟩,?_,?_⟩
 ·refine⟨List.pairwise_map.2 (hborn.up.imp fun h e=>?_),List.pairwise_map.2 (hborn.apart.imp_of_mem fun {x y} hx hy h e=>?_)⟩
  ·rw[e] at h
   exact Nat.lt_irrefl _ h
  ·obtain⟨p,hp,_⟩:=hkeys x hx
   exact h _ _ hp (e.symm.trans hp)
 ·rw[hrg,Maps.size_eq,hp.length_eq,List.length_map,Array.length_toList]
 ·rw[hrg]
  refine (hp.map _).trans ?_
  rw[List.map_map]
  exact List.Perm.refl _
structure SortC (P:Program) (f:FuncId):Prop where
 call:Gw P f
 lay:∃ r:Go.Shelf.Ren,Go.Proofs.SlLaysZI.n6 P r/\r.f 6=f/\Go.Proofs.AnyZI.SortsIn P r Fence.wide 3/\∀ args w,(callFunc (r.f 9) args).run P w=.ok (.enter (r.f 9) args) w
structure KeysC (P:Program) (g:FuncId):Prop where
 lay:∃ r:Go.Shelf.Ren,Go.Proofs.SlLaysZI.n10 P r/\r.f 10=g/\∀ args w,(callFunc g args).run P w=.ok (.enter g args) w
theorem Zep {f g:FuncId} (c:SortC P f) (eg:∀ args w,(callFunc g args).run P w=.ok (.enter g args) w) {lb:Array Value} {S:List Int->Prop} {N:Nat} (hN:N<=1000000) (hs:SeqGives Fence.wide 1 P g lb Go.encZ S N w) {r:Option Nat} {m:Nat} :
  CallsIn (Wd r) m P f #[.func (.func g) #[] lb] w fun e w'=>∃ (v:Value) (ss:List Int) (t:TypeId),e=.returned v/\S ss /\
   w'.ownsRow w.heap.size t 1 v ss.length ((ss.mergeSort (fun x y=>decide (x<=y))).map Go.encZ)/\(v=.slice none 0 0 ↔ ss=[])/\Below w.heap.size w w':=by
 obtain⟨q,L,rfl,hsort,e9⟩:=c.lay
 have hml:N<=maxLen:=Nat.le_trans hN dM
 refine Vy (callsIn_wide.1 ((Go.Proofs.AnyZI.sorted_in L Fence.wide 4 trivial trivial trivial trivial rfl (Nat.le_refl _) hsort e9 g lb trivial eg S N hml oM w hs).mono ?_))
 rintro e w' ⟨v,ss,he,h1,h2,h3,h4⟩
 exact⟨v,ss,_,he,h1,h2,h3,h4⟩
theorem Z4z {l ss:List Int} (hl:l.Pairwise (· <= ·)) (hp:ss.Perm l):ss.mergeSort (fun x y=>decide (x<=y))=l:=by
 refine List.Perm.eq_of_pairwise (le:=(· <= ·)) (fun a b _ _ h1 h2=>Int.le_antisymm h1 h2) ?_ hl ((List.mergeSort_perm _ _).trans hp)
 exact (List.pairwise_mergeSort (le:=fun x y:Int=>decide (x<=y)) (fun a b c h1 h2=>by simp at *; omega) (fun a b=>by simp; omega) ss).imp (fun h=>by simpa using h)
theorem Zig {l ss:List Int} (hl:l.Pairwise (· <= ·)) (hp:ss.Perm l) (hne:l≠[]) (hr:Rep K ρ h w) (hd:Dom ρ h.next) {v:Value} {t:TypeId}
  (ho:w'.ownsRow w.heap.size t 1 v ss.length ((ss.mergeSort (fun x y=>decide (x<=y))).map Go.encZ)) (hb:Below w.heap.size w w') :
  Wm K ρ h w (.w (.c (.slice h.next 0 l.length 1))) (h.new (.row 1 (l.map fun i=>[.int .i64 i]) false)) (.returned v) w':=by
 rw[Z4z hl hp] at ho
 have hlen:=hp.length_eq
 rcases ho.2 with ⟨_,h0⟩|⟨g,cap,cur,rfl,hg,hh,h1,h2,h3,h4⟩
 ·exact absurd (List.eq_nil_of_length_eq_zero (hlen ▸ h0)) hne
 ·rw[hlen] at h1 h4 ⊢
  refine⟨_,_,rfl,hr.newAt (hd _ (Nat.le_refl _)) _ g cap hg hb.block hb.size ?_ hb.os hb.tape hb.output,?_⟩
  ·refine⟨cur,t,(0,0),hh,by simpa using h3,fun _=>.inl rfl,fun x hx=>?_,fun k c hc=>?_⟩
   ·obtain⟨i,_,rfl⟩:=List.mem_map.1 hx
    rfl
   ·unfold read1 at hc
    simp only[Nat.div_one,Nat.mod_one] at hc
    split at hc
    ·cases hc
    ·rename_i e he
     rw[List.getElem?_map] at he
     cases hi:l[k]? with
     | none=>rw[hi] at he; cases he
     | some i =>
      rw[hi] at he
      cases he
      cases hc
      refine⟨.int .i64 i,?_,rfl⟩
      have hk:k<l.length:=(List.getElem?_eq_some_iff.1 hi).1
      have:(cur.toList.take (l.length * 1))[k]? = some (Go.encZ i):=by rw[h4,List.getElem?_map,hi]; rfl
      rw[List.getElem?_take_of_lt oM,Array.getElem?_toList] at this
      simpa using this
  ·exact⟨_,_,cap,Ren.Y2 _ _ _,rfl,.inr ⟨rfl,h1,by simp⟩⟩
theorem Zw5 {f:FuncId} (c:SortC P f) (kc:∀ g,K.keys.contains g=true->KeysC P g) {args:List W} {v:V} (hv:Ep K h args=some (.val v h')) {vals:List Value} {r:Option Nat} {m:Nat} (hr:Rep K ρ h w) (hd:Dom ρ h.next) (ha:Yn (Jq ρ) args vals):CallsIn (Wd r) m P f vals.toArray w (Wm K ρ h w v h'):=by
 unfold Ep at hv
 split at hv
 ·rename_i g a off
  cases hb:K.keys.contains g with
  | false=>rw[hb] at hv; cases hv
  | true =>
   rw[hb] at hv
   simp only[cond_true] at hv
   split at hv
   ·rename_i sz els ro ho
    obtain⟨u,rfl,hu⟩:=Me ha
    obtain⟨fa,ca,rfl,q1,q2⟩:=hu
    have hfa:fa = #[]:=by
     cases hfl:fa.toList with
     | nil=>exact Array.toList_eq_nil_iff.1 hfl
     | cons x y=>rw[hfl] at q1; exact q1.elim
    subst hfa
    obtain⟨cv,hcv,hcp⟩:=Me q2
    obtain⟨la,hla,rfl⟩:=hcp
    have hca:ca = #[.pointer (some (la.at off))]:=by
     apply Array.toList_inj.1
     rw[hcv]
    subst hca
    obtain⟨la',hla',cs,t,fr,hcell,hsz,hfr,hw,hrd⟩:=hr.obj a _ ho
    rw[hla] at hla'
    cases hla'
    obtain⟨rk,LK,rfl,eg⟩:=(kc g hb).lay
    have hBm:la.blk<w.heap.size:=(Array.getElem?_eq_some_iff.1 hcell).1
    unfold Q5 at hv
    split at hv
    ·
     rename_i hc1
     cases hv
     obtain⟨cv,hcv1,hcv2⟩:=hrd off _ hc1
     have e:cv=.map none:=hcv2
     subst e
     have hm:w.cell? (la.at off)=some (.map none):=by simp [World.cell?,Loc.at,hcell,hcv1]
     refine (Zep c eg (N:=0) oM (Go.Proofs.EvKeys.Zv8 LK Fence.wide 1 trivial rfl la.blk (la.base+off) w hBm hm)).mono ?_
     rintro e w' ⟨v,ss,t,rfl,rfl,h2,h3,h4⟩
     refine⟨ρ,v,rfl,hr.stay h4.block h4.size h4.os h4.tape h4.output,?_⟩
     rw[h3.2 rfl]
     rfl
    ·rename_i n hc1
     split at hv
     ·rename_i es hes
      obtain⟨cv,hcv1,lm,hlm,rfl⟩:=hrd off _ hc1
      have hm:w.cell? (la.at off)=some (.map (some lm.blk)):=by simp [World.cell?,Loc.at,hcell,hcv1]
      obtain⟨lm',hlm',xs,clock,hxb,hxs,hborn⟩:=hr.obj n _ hes
      rw[hlm] at hlm'
      cases hlm'
      unfold Zeo at hv
      split at hv
      ·rename_i hsk
       cases hv
       obtain⟨p1,p2,p3⟩:=Sv es [] xs.toList hsk hxs
       have hx0:xs.toList=[]:=by
        have:=p2.length_eq
        simp at this
        simpa using this.symm
       have hsz0:xs.size=0:=by rw[<-Array.length_toList,hx0]; rfl
       obtain⟨D,d1,d2,d3⟩:=Zuv P (rk.t 26) LK.t26 hxb hborn oM p3
       refine (Zep c eg (N:=Maps.size D) oM (Go.Proofs.EvKeys.gives LK Fence.wide 1 trivial rfl (Nat.le_refl _) la.blk (la.base+off) lm.blk _ D w hBm hm d1)).mono ?_
       rintro e w' ⟨v,ss,t,rfl,hss,h2,h3,h4⟩
       refine⟨ρ,v,rfl,hr.stay h4.block h4.size h4.os h4.tape h4.output,?_⟩
       have hs0:ss=[]:=by
        have:=(hss.trans d3).length_eq
        rw[hx0] at this
        exact List.eq_nil_of_length_eq_zero this
       rw[h3.2 hs0]
       rfl
      ·rename_i l hne hsk
       cases hb2:Nat.ble l.length 1000000 with
       | false=>rw[hb2] at hv; cases hv
       | true =>
        rw[hb2] at hv
        cases hv
        have hle:=U3 hb2
        obtain⟨p1,p2,p3⟩:=Sv es l xs.toList hsk hxs
        have hll:=p2.length_eq
        rw[List.length_map] at hll; have hxl:xs.toList.length=xs.size:=Array.length_toList
        obtain⟨D,d1,d2,d3⟩:=Zuv P (rk.t 26) LK.t26 hxb hborn oM p3
        refine (Zep c eg (N:=Maps.size D) oM (Go.Proofs.EvKeys.gives LK Fence.wide 1 trivial rfl (Nat.le_refl _) la.blk (la.base+off) lm.blk _ D w hBm hm d1)).mono ?_
        rintro e w' ⟨v,ss,t,rfl,hss,h2,h3,h4⟩
        exact Zig p1 ((hss.trans d3).trans p2.symm) (fun e=>hne e) hr hd h2 h4
      ·cases hv
     ·cases hv
    ·cases hv
   ·cases hv
 ·cases hv
end
open Go.RowKit
def atO {α:Type} (p:Nat->α->Prop) (o:Nat):Option α->Prop
 | some x=>p o x
 | none=>True
def Tree.Zln {α:Type} (p:Nat->α->Prop):Tree α->Nat->Nat->Prop
 | .nil,_,_=>True
 | .node v l r,m,o=>atO p o v/\l.Zln p (2 * m) (o+m)/\r.Zln p (2 * m) (o+2 * m)
theorem Tree.Zln.get {α:Type} {p:Nat->α->Prop}:∀ {t:Tree α} {m o:Nat},t.Zln p m o->∀ k x,t.get k=some x->p (o+m * k) x
 | .nil,_,_,_,k,x,h=>by rw[Tree.Ex] at h; cases h
 | .node v l r,m,o,⟨h1,h2,h3⟩,k,x,h=>by
  rw[Tree.Gz] at h
  split at h
  ·rename_i e
   subst e
   rw[h] at h1
   have h2:p o x:=h1
   simpa using h2
  ·rename_i e
   split at h
   ·rename_i e2
    have:=h2.get _ _ h
    have e3:o+m+2 * m * (k / 2)=o+m * k:=by
     have:k=2 * (k / 2)+1:=oM
     conv=>rhs; rw[this]
     rw[Nat.mul_add,<-Nat.mul_assoc,Nat.mul_comm m 2]
     omega
    rwa [e3] at this
   ·rename_i e2
    have:=h3.get _ _ h
    have e3:o+2 * m+2 * m * (k / 2 - 1)=o+m * k:=by
     obtain⟨q,hq⟩:∃ q,k=2 * q+2:=⟨k / 2 - 1,oM⟩
     have hq2:k / 2 - 1=q:=oM
     rw[hq2,hq,Nat.mul_add,<-Nat.mul_assoc,Nat.mul_comm m 2]
     omega
    rwa [e3] at this
def Tree.Zn6 {α:Type} (p:Nat->α->Bool) (t:Tree α):Nat->Nat->Bool:=match t with
 | .nil=>fun _ _=>true
 | .node v l r=>fun m o=>(match v with|some x=>p o x|none=>true)&&l.Zn6 p (2 * m) (o+m)&&r.Zn6 p (2 * m) (o+2 * m)
theorem Tree.Zcc {α:Type} {p:Nat->α->Bool}:∀ {t:Tree α} {m o:Nat},t.Zn6 p m o=true->t.Zln (fun i x=>p i x=true) m o
 | .nil,_,_,_=>trivial
 | .node v l r,m,o,h=>by
  unfold Tree.Zn6 at h
  rw[aQ,aQ] at h
  refine⟨?_,Tree.Zcc h.1.2,Tree.Zcc h.2⟩
  cases v with
  | none=>trivial
  | some x=>exact h.1.1
def Zrm (ti:TI):Option TypeInfo->Bool
 | some i=>Nat.beq i.size ti.size&&Nat.beq i.bytes ti.bytes&&(match i.zero with
  | some z=>(match Zd2 z with
   | some u=>eqV u (.w ti.zero)
   | none=>false)
  | none=>false)
 | none=>false
def Zcs (P:Program):List Field->Bool
 | []=>true
 | f :: l=>(P.info? f.type).isSome&&Zcs P l
def Zf4 (P:Program):TypeDesc->Bool
 | .slice e=>(P.info? e).isSome
 | .struct fs=>Zcs P fs.toList
 | _=>true
def Z43 (P:Program) (t:Nat) (ti:TI):Bool :=
 Zrm ti (P.info? t)&&(ti.agg == ti.desc.isRow)&&Nat.beq ti.zero.cells.length ti.size&&Zf4 P ti.desc&&(!ti.plain || (!P.stoodInHeld t&&!P.eqGuardType P.depth t))
def Zrt (_:Nat) (fn:Func):Bool:=!(fn.name == "runtime.NumGoroutine")
theorem Zct {P:Program}:∀ {l:List Field},Zcs P l=true->∀ f∈l,∃ i,P.info? f.type=some i
 | [],_,f,hf=>by cases hf
 | g :: l,h,f,hf=>by
  unfold Zcs at h
  rw[aQ] at h
  rcases List.mem_cons.1 hf with rfl|hf
  ·exact Option.isSome_iff_exists.1 h.1
  ·exact Zct h.2 f hf
theorem Z3j {K:Cfg} {P:Program} (hm:P.follows .mixedOrders=true) (hf:K.funcs.Zln (fun i fn=>P.funcs[i]? = some fn) 1 0) (hn:K.funcs.Zn6 Zrt 1 0=true)
  (hu:K.types.Zln (fun i ti=>P.underlying i=some ti.desc) 1 0) (ht:K.types.Zn6 (Z43 P) 1 0=true):Fits K P:=by
 have ht':∀ t ti,K.types.get t=some ti->Z43 P t ti=true:=fun t ti h=>by
  have:=(Tree.Zcc ht).get t ti h
  simpa using this
 have ht2:∀ t ti,K.types.get t=some ti->Zrm ti (P.info? t)=true/\ti.agg=ti.desc.isRow/\ti.zero.cells.length=ti.size/\Zf4 P ti.desc=true/\(ti.plain=true->P.stoodInHeld t=false/\P.eqGuardType P.depth t=false):=fun t ti h=>by
  have:=ht' t ti h
  unfold Z43 at this
  simp only[aQ,Bool.or_eq_true,beq_iff_eq,Bool.not_eq_true'] at this
  obtain⟨⟨⟨⟨h1,h2⟩,h3⟩,h4⟩,h5⟩:=this
  refine⟨h1,h2,bQ h3,h4,fun hp=>?_⟩
  rcases h5 with h5|h5
  ·rw[hp] at h5; cases h5
  ·exact h5
 refine⟨fun f fn h=>?_,fun f fn h e=>?_,hm,fun t ti h=>?_,fun t ti h=>?_,fun t ti h=>(ht2 t ti h).2.1,fun t ti h=>(ht2 t ti h).2.2.1,fun t ti el h e=>?_,fun t ti fs h e=>?_,fun t ti h=>(ht2 t ti h).2.2.2.2⟩
 ·have:=hf.get f fn h
  simpa using this
 ·have:=(Tree.Zcc hn).get f fn h
  unfold Zrt at this
  rw[e] at this
  simp at this
 ·have:=hu.get t ti h
  simpa using this
 ·have h1:=(ht2 t ti h).1
  unfold Zrm at h1
  split at h1
  ·rename_i i hi
   simp only[aQ] at h1
   obtain⟨⟨a,b⟩,c⟩:=h1
   split at c
   ·rename_i z hz
    split at c
    ·rename_i u hu
     have e:=Zy3 c
     subst e
     exact⟨i,hi,bQ a,bQ b,z,hz,fun ρ=>Zn5 ρ hu⟩
    ·cases c
   ·cases c
  ·cases h1
 ·have h4:=(ht2 t ti h).2.2.2.1
  rw[e] at h4
  exact Option.isSome_iff_exists.1 h4
 ·have h4:=(ht2 t ti h).2.2.2.1
  rw[e] at h4
  exact Zct h4
open Go.RowKit
def isTrue:Option Out->Bool
 | some (.val (.w (.c (.bool true))) _)=>true
 | _=>false
theorem Zo5 {o:Option Out} (h:isTrue o=true):∃ h',o=some (.val (.w (.c (.bool true))) h'):=by
 unfold isTrue at h
 split at h
 ·exact⟨_,rfl⟩
 ·cases h
def steps16:List Int:=[0,498536548,997073096,651767980,1994146192,1802195444,1303535960,1342533948,3988292384,4027552580,3604390888,3412177804,2607071920,2262029012,2685067896,3183342108]
def Xc:H:=⟨Tree.node (some (.row 16 [[.int .u32 0,.int .u32 498536548,.int .u32 997073096,.int .u32 651767980,.int .u32 1994146192,.int .u32 1802195444,.int .u32 1303535960,.int .u32 1342533948,.int .u32 3988292384,.int .u32 4027552580,.int .u32 3604390888,.int .u32 3412177804,.int .u32 2607071920,.int .u32 2262029012,.int .u32 2685067896,.int .u32 3183342108]] true)) .nil .nil,1⟩
def Sr (G:Nat):Ren:=fun n=>if n=0 then some ⟨G,0,16⟩ else none
theorem Tp {K:Cfg} {G:Nat} (hg:K.globs=Tree.set .nil G 0) {g n:Nat} (h:K.globs.get g=some n):g=G/\n=0:=by
 rw[hg,Tree.Zam] at h
 split at h
 ·rename_i e
  cases h
  exact⟨e,rfl⟩
 ·rw[Tree.Ex] at h; cases h
theorem Zhe {K:Cfg} {G:Nat} (hg:K.globs=Tree.set .nil G 0):K.globs.get G=some 0:=by rw[hg,Tree.Zam,if_pos rfl]
theorem Fb {n:Nat} {o:O} (h:Xc.get n=some o):n=0/\o=.row 16 [steps16.map (.int .u32)] true:=by
 have h':(Tree.node (some (O.row 16 [steps16.map (.int .u32)] true)) .nil .nil).get n=some o:=h
 rw[Tree.Gz] at h'
 split at h'
 ·rename_i e
  cases h'
  exact⟨e,rfl⟩
 ·split at h'<;>(rw[Tree.Ex] at h'; cases h')
section
variable {K:Cfg} {P:Program} {W:World} {G:Nat}
theorem Zen (hg:K.globs=Tree.set .nil G 0) {cs:Array Value} {t:TypeId} {fr:Nat × Nat} (hb:W.heap[G]? = some (.cells cs t fr)) (hcs:cs.toList=steps16.map (Value.int .u32)):Rep K (Sr G) Xc W:=by
 refine⟨fun g n h=>?_,fun n o h=>?_,fun n n' o o' l l' hne h h' _ _=>?_⟩
 ·obtain⟨rfl,rfl⟩:=Tp hg h
  exact⟨16,rfl⟩
 ·obtain⟨rfl,rfl⟩:=Fb h
  refine⟨⟨G,0,16⟩,rfl,cs,t,fr,hb,?_,fun h=>(by cases h),fun x hx=>?_,fun k c hc=>?_⟩
  ·rw[<-Array.length_toList,hcs]
   rfl
  ·simp only[List.mem_singleton] at hx
   subst hx
   rfl
  ·unfold read1 at hc
   have hk:k / 16=0:=by
    rcases Nat.eq_zero_or_pos (k / 16) with e|e
    ·exact e
    ·obtain⟨q,hq⟩:∃ q,k / 16=q+1:=⟨k / 16 - 1,oM⟩
     rw[hq] at hc
     simp at hc
   have hk2:k % 16=k:=oM
   rw[hk,hk2] at hc
   simp only[List.getElem?_cons_zero,List.getElem?_map] at hc
   cases he:steps16[k]? with
   | none=>rw[he] at hc; cases hc
   | some z =>
    rw[he] at hc
    cases hc
    refine⟨.int .u32 z,?_,rfl⟩
    simp only[Nat.zero_add]
    rw[<-Array.getElem?_toList,hcs,List.getElem?_map,he]
    rfl
 ·obtain⟨rfl,_⟩:=Fb h
  obtain⟨rfl,_⟩:=Fb h'
  exact absurd rfl hne
theorem Z3z {H:Type} {enc:TypeId × Value->H} {base:Nat} {spare:Nat->Bool} {held:Bool} {fuel:Nat} {t e:TypeId} {n:Nat} {k:IntKind} {cs:List Value} {zs:List Int} {p:List MemPlace} (ht:P.underlying t=some (.array n e)) (he:P.underlying e=some (.int k)) (hc:P.cellsOf e=1) (hct:P.cellsOf t=n)
  (h:DataW.trod enc P W base spare held fuel t cs=some (.agg (zs.map fun z=>.lit (.int k z)),p)):cs=zs.map (Value.int k):=by
 obtain⟨xs,m,rfl,hx,hlen,hn,hel⟩:=DataW.trod_array ht h
 simp only[Prod.mk.injEq,DataW.agg.injEq] at hx
 have hzl:zs.length=n:=by
  have:=congrArg List.length hx.1
  simp at this
  omega
 apply List.ext_getElem?
 intro i
 rw[List.getElem?_map]
 by_cases hi:i<n
 ·have h1:=hel i hi
  rw[hc,Nat.mul_one] at h1
  have hix:i<xs.length:=oM
  rw[List.getElem?_eq_getElem hix] at h1
  obtain⟨z,e1,e2,_⟩:=DataW.trod_int he h1
  have hcs:cs[i]? = some (.int k z):=by
   have:=congrArg (fun l:List Value=>l[0]?) e1
   simpa [List.getElem?_take,List.getElem?_drop] using this
  have hz:zs[i]? = some z:=by
   have:=congrArg (fun l:List (DataW H)=>l[i]?) hx.1
   simp only[List.getElem?_map,List.getElem?_eq_getElem hix,Option.map_some,e2] at this
   cases hz:zs[i]? with
   | none=>rw[hz] at this; cases this
   | some y =>
    rw[hz] at this
    simp at this
    rw[this]
  rw[hcs,hz]
  rfl
 ·rw[List.getElem?_eq_none oM,List.getElem?_eq_none oM]
  rfl
theorem Zur {nm:String} {t e:TypeId} (hg:P.globalNamed nm=some G) (hgt:(P.globals[G]?).map (·.type)=some t) (ht:P.underlying t=some (.array 16 e)) (he:P.underlying e=some (.int .u32)) (hc:P.cellsOf e=1) (hct:P.cellsOf t=16)
  (h:laidMetH P [(nm,.agg (steps16.map fun z=>.lit (.int .u32 z)))] W):∃ cs t fr,W.heap[G]? = some (.cells cs t fr)/\cs.toList=steps16.map (Value.int .u32):=by
 rw[MakeChecks.laidMetH_plain _ _ _ rfl] at h
 obtain⟨ps,⟨g0,t0,cs0,f0,p0,q0,hg0,ht0,hv0,hd0,_,_⟩,_,_⟩:=h
 obtain rfl:=Option.some.inj (hg.symm.trans hg0)
 obtain rfl:=Option.some.inj (hgt.symm.trans ht0)
 have e1:=Z3z ht he hc hct hd0
 simp only[World.var?,hg,Option.bind_some] at hv0
 split at hv0
 ·rename_i cs t' fr hb
  cases hv0
  exact⟨_,_,_,hb,e1⟩
 ·cases hv0
end
open Go.RowKit
abbrev Kn:=FuncId->List W->H->Option (V × H)
noncomputable section
def Z5w (K:Cfg) (X:Kn) (ev:Task->Option Out) (t:Task):Option Out :=
 Task.rec (motive:=fun _=>Option Out)
  (fun f args h=>Option.rec (Di K ev f args h) (fun p=>Prod.rec (fun v h'=>some (.val v h')) p) (X f args h))
  (fun c n rd ds ts h=>Zg4 K ev c n rd ds ts h) t
def evX (K:Cfg) (X:Kn) (f:Nat):Task->Option Out :=
 Nat.rec (motive:=fun _=>Task->Option Out) (fun _=>none) (fun _ ih=>Z5w K X ih) f
end
def Zy (K:Cfg) (P:Program) (f:FuncId) (args:List W) (h:H) (v:V) (h':H):Prop :=
 Gw P f/\∀ ρ w vals r m,Rep K ρ h w->Dom ρ h.next->Yn (Jq ρ) args vals->CallsIn (Wd r) m P f vals.toArray w (Wm K ρ h w v h')
def Zfk (K:Cfg) (P:Program) (X:Kn):Prop:=∀ f args h v h',X f args h=some (v,h')->Zy K P f args h v h'
section
variable {K:Cfg} {P:Program} {E:Task->Option Out} {X:Kn}
theorem Zqa (F:Fits K P) (Hh:Hearts K P) (hX:Zfk K P X) (S:Sound K P E):Sound K P (Z5w K X E):=by
 have T:=Lv F Hh S (Zah F S)
 refine⟨fun f args h v h' hv=>?_,fun c n rd ds ts h x ds' ts' h' hv=>T.code c n rd ds ts h x ds' ts' h' hv,fun t o hv=>?_⟩
 ·cases hx:X f args h with
  | none =>
   have hv':(Option.rec (Di K E f args h) (fun p=>Prod.rec (fun v h'=>some (.val v h')) p) (X f args h):Option Out)=some (.val v h'):=hv
   rw[hx] at hv'
   exact T.call f args h v h' hv'
  | some p =>
   obtain⟨v1,h1⟩:=p
   have hv':(Option.rec (Di K E f args h) (fun p=>Prod.rec (fun v h'=>some (.val v h')) p) (X f args h):Option Out)=some (.val v h'):=hv
   rw[hx] at hv'
   cases hv'
   exact hX f args h v h' hx
 ·cases t with
  | call f args h =>
   cases hx:X f args h with
   | none =>
    have hv':(Option.rec (Di K E f args h) (fun p=>Prod.rec (fun v h'=>some (.val v h')) p) (X f args h):Option Out)=some o:=hv
    rw[hx] at hv'
    exact T.shape (.call f args h) o hv'
   | some p =>
    obtain⟨v1,h1⟩:=p
    have hv':(Option.rec (Di K E f args h) (fun p=>Prod.rec (fun v h'=>some (.val v h')) p) (X f args h):Option Out)=some o:=hv
    rw[hx] at hv'
    cases hv'
    exact .inl ⟨_,_,_,_,_,rfl,rfl⟩
  | code c n rd ds ts h=>exact T.shape (.code c n rd ds ts h) o hv
theorem Nl (F:Fits K P) (Hh:Hearts K P) (hX:Zfk K P X) (n:Nat):Sound K P (evX K X n):=by
 induction n with
 | zero=>exact⟨fun _ _ _ _ _ h=>(by cases h),fun _ _ _ _ _ _ _ _ _ _ h=>(by cases h),fun _ _ h=>(by cases h)⟩
 | succ n ih=>exact Zqa F Hh hX ih
theorem Zoh (F:Fits K P) (Hh:Hearts K P) (hX:Zfk K P X) {G:Nat} (hg:K.globs=Tree.set .nil G 0) {W:World} {cs:Array Value} {t:TypeId} {fr:Nat × Nat} (hb:W.heap[G]? = some (.cells cs t fr)) (hcs:cs.toList=steps16.map (Value.int .u32))
  {f:FuncId} {args:List Ev.W} {n:Nat} (ht:isTrue (evX K X n (.call f args Xc))=true) {vals:List Value} (ha:Yn (Jq (Sr G)) args vals) :
  Calls P f vals.toArray W fun e W'=>e=.returned (.bool true)/\Below W.heap.size W W':=by
 obtain⟨h',he⟩:=Zo5 ht
 have hd:Dom (Sr G) Xc.next:=fun n hn=>by
  have:n≠0:=by have:1<=n:=hn; omega
  simp [Sr,this]
 have:=((Nl F Hh hX n).call f args Xc _ h' he).2 (Sr G) W vals none 0 (Zen hg hb hcs) hd ha
 refine (callsIn_wide.1 (show CallsIn Fence.wide 0 P f vals.toArray W _ from this)).mono ?_
 rintro e W' ⟨ρ',val,rfl,aft,hv⟩
 have e:val=.bool true:=hv
 subst e
 refine⟨rfl,aft.fr.os,aft.fr.tape,aft.fr.output,aft.fr.size,fun k hk=>aft.fr.keep k hk ?_⟩
 rintro⟨m,o,l,ho,hro,_⟩
 obtain⟨rfl,rfl⟩:=Fb ho
 cases hro
end
open Go.RowKit
def Yf (K:Cfg) (P:Program) (n:Nat) (rd:Option Nat) (c:Code) (ds:List Nat) (ts:Zw) (h:H) (x:X) (ds':List Nat) (ts':Zw) (h':H):Prop :=
 ∀ D ρ w a r m,Rep K ρ h w->Dom ρ h.next->G9 ρ n ts a.tmps->Marks ρ D ds a.defers->RdR ρ rd r->c.wpIn (Wd r) m P (Zbi K D ρ h w n x ds' ts' h') a w
section
variable {K:Cfg} {P:Program} {E:Task->Option Out} {X:Kn} {n:Nat} {rd:Option Nat} {ds ds1 ds2:List Nat} {ts ts1 ts2:Zw} {h h1 h2:H} {x:Ev.X} {b c:Code}
theorem Yf.ev (F:Fits K P) (Hh:Hearts K P) (hX:Zfk K P X) {k:Nat} (e:evX K X k (.code c n rd ds ts h)=some (.at x ds1 ts1 h1)):Yf K P n rd c ds ts h x ds1 ts1 h1 :=
 (Nl F Hh hX k).code c n rd ds ts h x ds1 ts1 h1 e
theorem Yf.seq (a1:Yf K P n rd b ds ts h .normal ds1 ts1 h1) (a2:Yf K P n rd c ds1 ts1 h1 x ds2 ts2 h2):Yf K P n rd (.seq b c) ds ts h x ds2 ts2 h2:=by
 intro D ρ w a r m hr hd ht hm hrd
 refine wpIn_seq (wpIn_mono (a1 D ρ w a r m hr hd ht hm hrd) ?_)
 rintro e a1 w1 ⟨rfl,ρ1,aft1,tr1,mk1⟩
 show c.wpIn (Wd r) m P _ a1 w1
 refine wpIn_mono (a2 D ρ1 w1 a1 r m aft1.rep (aft1.dom hd) tr1 mk1 (hrd.mono aft1.le)) ?_
 rintro e a2 w2 ⟨rfl,ρ2,aft2,tr2,mk2⟩
 exact⟨rfl,ρ2,aft1.trans aft2,tr2,mk2⟩
theorem Yf.Zu2 (hx:x≠.normal) (a1:Yf K P n rd b ds ts h x ds1 ts1 h1):Yf K P n rd (.seq b c) ds ts h x ds1 ts1 h1:=by
 intro D ρ w a r m hr hd ht hm hrd
 refine wpIn_seq (wpIn_mono (a1 D ρ w a r m hr hd ht hm hrd) ?_)
 rintro e a1 w1 ⟨rfl,rest⟩
 cases x with
 | normal=>exact absurd rfl hx
 | exit id=>exact⟨rfl,rest⟩
 | ret=>exact⟨rfl,rest⟩
theorem Yf.cond_true {o:Operand} (hc:Zz K ts o=some (.bool true)) (a1:Yf K P n rd b ds ts h x ds1 ts1 h1):Yf K P n rd (.cond o b c) ds ts h x ds1 ts1 h1 :=
 fun D ρ w a r m hr hd ht hm hrd=>wpIn_cond_true ((Nw hr ht).c hc) (a1 D ρ w a r m hr hd ht hm hrd)
theorem Yf.cond_false {o:Operand} (hc:Zz K ts o=some (.bool false)) (a1:Yf K P n rd c ds ts h x ds1 ts1 h1):Yf K P n rd (.cond o b c) ds ts h x ds1 ts1 h1 :=
 fun D ρ w a r m hr hd ht hm hrd=>wpIn_cond_false ((Nw hr ht).c hc) (a1 D ρ w a r m hr hd ht hm hrd)
theorem Yf.scope (a1:Yf K P n rd b ds ts h x ds1 ts1 h1):Yf K P n rd (.scope b) ds ts h x ds1 ts1 h1:=by
 intro D ρ w a r m hr hd ht hm hrd
 refine Zim (fun l a w=>?_) (a1 D ρ w a r m hr hd ht hm hrd)
 rintro⟨e,_⟩
 cases x<;>cases e
theorem Yf.label {l:Nat}:Yf K P n rd (.label l) ds ts h .normal ds ts h :=
 fun D ρ w a r m hr hd ht hm hrd=>wpIn_label ⟨rfl,ρ,Aft.refl hr,ht,hm⟩
theorem Yf.skip:Yf K P n rd .skip ds ts h .normal ds ts h :=
 fun D ρ w a r m hr hd ht hm hrd=>wpIn_skip ⟨rfl,ρ,Aft.refl hr,ht,hm⟩
theorem Yf.exit {id:Nat}:Yf K P n rd (.exit id) ds ts h (.exit id) ds ts h :=
 fun D ρ w a r m hr hd ht hm hrd=>wpIn_exit ⟨rfl,ρ,Aft.refl hr,ht,hm⟩
theorem Yf.ret:Yf K P n rd .ret ds ts h .ret ds ts h :=
 fun D ρ w a r m hr hd ht hm hrd=>wpIn_ret ⟨rfl,ρ,Aft.refl hr,ht,hm⟩
theorem Yf.block {id:Nat} (a1:Yf K P n rd b ds ts h .normal ds1 ts1 h1):Yf K P n rd (.block id b) ds ts h .normal ds1 ts1 h1:=by
 intro D ρ w a r m hr hd ht hm hrd
 refine wpIn_block (wpIn_mono (a1 D ρ w a r m hr hd ht hm hrd) ?_)
 rintro e a1 w1 ⟨rfl,rest⟩
 exact⟨rfl,rest⟩
theorem Yf.Zjx {id:Nat} (a1:Yf K P n rd b ds ts h .ret ds1 ts1 h1):Yf K P n rd (.block id b) ds ts h .ret ds1 ts1 h1:=by
 intro D ρ w a r m hr hd ht hm hrd
 refine wpIn_block (wpIn_mono (a1 D ρ w a r m hr hd ht hm hrd) ?_)
 rintro e a1 w1 ⟨rfl,rest⟩
 exact⟨rfl,rest⟩
theorem Yf.Zgq {id:Nat} (a1:Yf K P n rd b ds ts h (.exit id) ds1 ts1 h1):Yf K P n rd (.block id b) ds ts h .normal ds1 ts1 h1:=by
 intro D ρ w a r m hr hd ht hm hrd
 refine wpIn_block (wpIn_mono (a1 D ρ w a r m hr hd ht hm hrd) ?_)
 rintro e a1 w1 ⟨rfl,rest⟩
 show Exit.inBlock id _ (.exit id) a1 w1
 simp only[Exit.inBlock,if_true]
 exact⟨rfl,rest⟩
theorem Zbi.ends {D:List Deferred} {ρ:Ren} {w:World} {e:Exit} {a:Act} {w':World} (hp:Zbi K D ρ h w n x ds1 ts1 h1 e a w'):e=.normal\/(∃ id,e=.exit id)\/e=.ret:=by
 obtain⟨rfl,_⟩:=hp
 cases x with
 | normal=>exact .inl rfl
 | exit id=>exact .inr (.inl ⟨id,rfl⟩)
 | ret=>exact .inr (.inr rfl)
theorem Yf.loop (a1:Yf K P n rd b ds ts h .normal ds1 ts1 h1) (a2:Yf K P n rd (.loop b) ds1 ts1 h1 x ds2 ts2 h2):Yf K P n rd (.loop b) ds ts h x ds2 ts2 h2:=by
 intro D ρ w a r m hr hd ht hm hrd
 refine Si (fun _ _ _ hp=>Zbi.ends hp) (wpIn_mono (a1 D ρ w a r m hr hd ht hm hrd) ?_)
 rintro e a1 w1 ⟨rfl,ρ1,aft1,tr1,mk1⟩
 show (Code.loop b).wpIn (Wd r) m P _ a1 w1
 refine wpIn_mono (a2 D ρ1 w1 a1 r m aft1.rep (aft1.dom hd) tr1 mk1 (hrd.mono aft1.le)) ?_
 rintro e a2 w2 ⟨rfl,ρ2,aft2,tr2,mk2⟩
 exact⟨rfl,ρ2,aft1.trans aft2,tr2,mk2⟩
theorem Yf.Zpb (hx:x≠.normal) (a1:Yf K P n rd b ds ts h x ds1 ts1 h1):Yf K P n rd (.loop b) ds ts h x ds1 ts1 h1:=by
 intro D ρ w a r m hr hd ht hm hrd
 refine Si (fun _ _ _ hp=>Zbi.ends hp) (wpIn_mono (a1 D ρ w a r m hr hd ht hm hrd) ?_)
 rintro e a1 w1 ⟨rfl,rest⟩
 cases x with
 | normal=>exact absurd rfl hx
 | exit id=>exact⟨rfl,rest⟩
 | ret=>exact⟨rfl,rest⟩
theorem Zy.body (F:Fits K P) (Hh:Hearts K P) {f:FuncId} {fn:Func} {body:Code} {args:List W} {v:V} (hc:K.clones.contains f=false) (hs:K.sorted.lookup f=none) (hf:K.funcs.get f=some fn) (hb:fn.body=some body) (hn:Nat.ble args.length fn.ntmps=true)
  (hbody:Yf K P fn.ntmps none body [] (U2 0 args .nil) h x ds1 ts1 h1) (hl:leave K fn (some (.at x ds1 ts1 h1))=some (.val v h2)):Zy K P f args h v h2:=by
 classical
 let E:Task->Option Out:=fun t=>if t=.code body fn.ntmps none [] (U2 0 args .nil) h then some (.at x ds1 ts1 h1) else none
 have S:Sound K P E:=by
  refine⟨fun f args h v h' he=>?_,fun c n rd ds ts h x ds' ts' h' he=>?_,fun t o he=>?_⟩
  ·simp only[E] at he
   rw[if_neg (by intro e; cases e)] at he
   cases he
  ·simp only[E] at he
   split at he
   ·rename_i e
    cases e
    cases he
    exact hbody
   ·cases he
  ·simp only[E] at he
   split at he
   ·rename_i e
    cases e
    cases he
    exact .inr ⟨_,_,_,_,_,_,_,_,_,_,rfl,rfl⟩
   ·cases he
 have T:=Lv F Hh S (Zah F S)
 refine T.call f args h v h2 ?_
 show Di K E f args h=_
 unfold Di
 rw[hc,hs]
 show enter K E args h (K.funcs.get f)=_
 rw[hf]
 unfold enter
 simp only[hb,hn,cond_true,E,if_true]
 exact hl
end
open Go.RowKit
section
variable {K:Cfg} {P:Program} {n:Nat} {rd:Option Nat} {ds ds1:List Nat} {ts ts' ts1 ts2:Zw} {h h1 h2:H} {x:Ev.X} {c:Code}
theorem Yf.congr (e:∀ i,Ze ts i=Ze ts' i) (a1:Yf K P n rd c ds ts h x ds1 ts1 h1):Yf K P n rd c ds ts' h x ds1 ts1 h1 :=
 fun D ρ w a r m hr hd ht hm hrd=>a1 D ρ w a r m hr hd ⟨ht.1,fun i=>by rw[e i]; exact ht.2 i⟩ hm hrd
end
open Go.RowKit
section
variable {K:Cfg} {X:Kn} {E:Task->Option Out} {n k:Nat} {rd:Option Nat} {ds:List Nat} {ts:Zw} {h:H} {all:List Oper}
theorem Zou (d:Option Tmp) (op:Op) (t:TypeId) (p:String) (a:Array Edge):Zcq K E all n ts h ⟨d,op,t,p,a,none⟩=X7 n ts d (J4 K E ts h op):=rfl
theorem Zv (d:Tmp) (v:V) (hd:Nat.blt d n=true):X7 n ts (some d) (some (v,h))=some (ts.set d v,h):=by
 unfold X7 Rt
 simp only[hd,cond_true]
theorem Zr1 (v:V):X7 n ts none (some (v,h))=some (ts,h):=rfl
theorem Zx9 (x:Operand):J4 K E ts h (.move x)=Rs h (Ba K ts x):=rfl
theorem Zqz (x:Operand):J4 K E ts h (.assign x)=Rs h (Ba K ts x):=rfl
theorem Zve (op:BinOp) (t:TypeId) (x y:Operand) (u:TypeId):J4 K E ts h (.binOp op t x y u)=Gf h (binop K op t (evalW K ts x) (evalW K ts y)):=rfl
theorem Zyb (op:UnOp) (t:TypeId) (x:Operand):J4 K E ts h (.unOp op t x)=Gf h (Zqe op (Zz K ts x)):=rfl
theorem Zn9 (s t:TypeId) (x:Operand):J4 K E ts h (.convert s t x)=Zh4 K h (Nat.beq s t) (K.types.get s) (Zz K ts x) (Zh3 K h (K.types.get s) (K.types.get t) (Zz K ts x) (Bu h (K.types.get s) (K.types.get t) (Zz K ts x))):=rfl
theorem Zpn (b:Bool) (s:Option TI) (c:Option C) (r:V × H):Zh4 K h b s c (some r)=some r:=rfl
theorem Zpm (b:Bool) (s:Option TI) (c:Option C):Zh4 K h b s c none=bif b then Zcl K h s c else none:=rfl
theorem Zpl (s t:Option TI) (c:Option C) (r:V × H):Zh3 K h s t c (some r)=some r:=rfl
theorem Zpk (s t:Option TI) (c:Option C):Zh3 K h s t c none=Xi K h s t c:=rfl
theorem Zx8 (t:TypeId) (x:Operand):J4 K E ts h (.load t x)=Zei K h t (Zz K ts x):=rfl
theorem Zvl (t:TypeId) (x y:Operand):J4 K E ts h (.store t x y)=Zat K h t (Zz K ts x) (evalW K ts y):=rfl
theorem Zja (t:TypeId) (x i:Operand):J4 K E ts h (.indexAddr t x i)=Gf h (Be K (K.types.get t) (Zz K ts x) (U9 (Zz K ts i))):=rfl
theorem Zvh (t:TypeId) (x i:Operand):J4 K E ts h (.index t x i)=Lf h (F6 K (K.types.get t) (evalW K ts x) (U9 (Zz K ts i))):=rfl
theorem Zn8 (b:Builtin) (args:Array Operand) (tys:Array TypeId):J4 K E ts h (.call ⟨.builtin b,args,tys⟩)=Ox K h b tys.toList (O9 K ts args.toList):=rfl
theorem Z2t (tys:List TypeId) (args:Option (List W)):Ox K h .len tys args=Zt K h .len tys args:=rfl
theorem Zq3 (tys:List TypeId) (args:Option (List W)):Ox K h .append tys args=Zt K h .append tys args:=rfl
theorem Zq4 (tys:List TypeId) (args:Option (List W)):Ox K h .delete tys args=Zt K h .delete tys args:=rfl
theorem Zvn (tys:List TypeId) (args:Option (List W)):Ox K h .clear tys args=Zt K h .clear tys args:=rfl
theorem Z2v (tys:List TypeId) (args:Option (List W)):Ox K h .min tys args=Zt K h .min tys args:=rfl
theorem Z2u (tys:List TypeId) (args:Option (List W)):Ox K h .max tys args=Zt K h .max tys args:=rfl
theorem Zyl (tys:List TypeId) (args:Option (List W)):Ox K h .copy tys args=Zf3 K h tys args:=rfl
theorem Zx7 (f:Operand) (args:Array Operand) (tys:Array TypeId):J4 K E ts h (.call ⟨.value f,args,tys⟩)=Zks (Nv E h (O9 K ts args.toList) (Zz K ts f)):=rfl
theorem Yb (t:Tmp):Ba K ts (.tmp t)=some (Ze ts t):=rfl
theorem Zow (v:Value):Ba K ts (.const v)=Zd2 v:=rfl
theorem Zrc (f:FuncId):Ba K ts (.func f)=some (.w (.c (.fn f [] []))):=rfl
end
open Go.RowKit
def Z7y (σ:Nat->Nat):Option (Nat × Nat)->Option (Nat × Nat)
 | some (n,o)=>some (σ n,o)
 | none=>none
def C.ren (σ:Nat->Nat):C->C
 | .ptr n o=>.ptr (σ n) o
 | .slice n off len sz=>.slice (σ n) off len sz
 | .map n=>.map (σ n)
 | .fn f a b=>.fn f (a.map (Z7y σ)) (b.map (Z7y σ))
 | .yield l=>.yield (σ l)
 | .bool b=>.bool b
 | .int k n=>.int k n
 | .str s=>.str s
 | .pnil=>.pnil
 | .snil=>.snil
 | .mnil=>.mnil
 | .nilFn=>.nilFn
def W.ren (σ:Nat->Nat):W->W
 | .c x=>.c (x.ren σ)
 | .g l=>.g (l.map (C.ren σ))
def V.ren (σ:Nat->Nat):V->V
 | .w x=>.w (x.ren σ)
 | .tup l=>.tup (l.map (W.ren σ))
def Z7x (σ:Nat->Nat) (p:W × W):W × W:=(p.1.ren σ,p.2.ren σ)
def O.ren (σ:Nat->Nat):O->O
 | .row sz els ro=>.row sz (els.map (List.map (C.ren σ))) ro
 | .map es=>.map (es.map (Z7x σ))
 | o=>o
def O.simple:O->Bool
 | .row _ _ _=>true
 | .map _=>true
 | _=>false
section
variable {ρ:Ren} {σ:Nat->Nat}
theorem Nr {α β γ:Type} {R:β->γ->Prop} {f:α->β}:∀ {l:List α} {m:List γ},Yn R (l.map f) m ↔ Yn (fun a c=>R (f a) c) l m
 | [],[]=>Iff.rfl
 | [],_ :: _=>Iff.rfl
 | _ :: _,[]=>Iff.rfl
 | _ :: _,_ :: _=>and_congr Iff.rfl Nr
theorem Sy {α β:Type} {R R':α->β->Prop} (h:∀ a b,R a b ↔ R' a b) {l:List α} {m:List β}:Yn R l m ↔ Yn R' l m :=
 ⟨Yn.mono fun a b=>(h a b).1,Yn.mono fun a b=>(h a b).2⟩
theorem Zol (p:Option (Nat × Nat)) (v:Value):Sw ρ (Z7y σ p) v ↔ Sw (fun n=>ρ (σ n)) p v:=by cases p<;>exact Iff.rfl
theorem Zft (c:C) (v:Value):Con ρ (c.ren σ) v ↔ Con (fun n=>ρ (σ n)) c v:=by
 cases c with
 | fn f a b =>
  simp only[C.ren,Con]
  refine exists_congr fun x=>exists_congr fun y=>and_congr Iff.rfl (and_congr ?_ ?_)
  ·exact Nr.trans (Sy Zol)
  ·exact Nr.trans (Sy Zol)
 | _=>exact Iff.rfl
theorem W9 (x:W) (v:Value):Jq ρ (x.ren σ) v ↔ Jq (fun n=>ρ (σ n)) x v:=by
 cases x with
 | c x=>exact Zft x v
 | g l=>exact exists_congr fun cs=>and_congr Iff.rfl (Nr.trans (Sy Zft))
theorem Zom (x:V) (v:Value):O8 ρ (x.ren σ) v ↔ O8 (fun n=>ρ (σ n)) x v:=by
 cases x with
 | w x=>exact W9 x v
 | tup l=>exact exists_congr fun cs=>and_congr Iff.rfl (Nr.trans (Sy W9))
theorem Zwz (sz:Nat) (els:List (List C)) (k:Nat):read1 sz (els.map (List.map (C.ren σ))) k=(read1 sz els k).map (C.ren σ):=by
 unfold read1
 rw[List.getElem?_map]
 cases els[k / sz]? with
 | none=>rfl
 | some e=>exact List.getElem?_map ..
theorem Qs {w:World} {o:O} (hs:o.simple=true) (l:Loc):Bv ρ w (o.ren σ) l ↔ Bv (fun n=>ρ (σ n)) w o l:=by
 cases o with
 | row sz els ro =>
  simp only[O.ren,Bv,Zwz]
  refine exists_congr fun cs=>exists_congr fun t=>exists_congr fun fr=>and_congr Iff.rfl (and_congr Iff.rfl (and_congr Iff.rfl (and_congr ?_ ?_)))
  ·simp
  ·constructor
   ·intro h k c hc
    obtain⟨v,h1,h2⟩:=h k (c.ren σ) (by rw[hc]; rfl)
    exact⟨v,h1,(Zft c v).1 h2⟩
   ·intro h k c hc
    cases hr:read1 sz els k with
    | none=>rw[hr] at hc; cases hc
    | some c0 =>
     rw[hr] at hc
     cases hc
     obtain⟨v,h1,h2⟩:=h k c0 hr
     exact⟨v,h1,(Zft c0 v).2 h2⟩
 | map es =>
  simp only[O.ren,Bv]
  refine exists_congr fun xs=>exists_congr fun cl=>and_congr Iff.rfl (and_congr ?_ Iff.rfl)
  exact Nr.trans (Sy fun p e=>and_congr (W9 _ _) (W9 _ _))
 | _=>cases hs
theorem Zif (o:O):(o.ren σ).ro=o.ro:=by cases o<;>rfl
end
section
variable {K:Cfg} {P:Program} {h0 h1 h h':H} {f:FuncId} {args:List W} {v:V} {σ:Nat->Nat}
structure Lies (K:Cfg) (σ:Nat->Nat) (h0 h:H):Prop where
 new:∀ n,h0.next<=n->σ n=h.next+(n - h0.next)
 old:∀ n,n<h0.next->σ n<h.next
 obj:∀ n o,h0.get n=some o->o.simple=true/\∃ o',h.get (σ n)=some o'/\(o'=o.ren σ\/∃ sz els,o=.row sz els true/\o'=(O.row sz els false).ren σ)
 inj:∀ n n' o o',h0.get n=some o->h0.get n'=some o'->n≠n'->σ n≠σ n'
 glob:∀ g n,K.globs.get g=some n->σ n=n
structure Lain (σ:Nat->Nat) (h0 h1 h h':H):Prop where
 next:h'.next=h.next+(h1.next - h0.next)
 obj:∀ m o',h'.get m=some o'->(h.get m=some o'/\∀ n o,h0.get n=some o->σ n=m->o.ro=true)\/∃ n o,h1.get n=some o/\o.ro=false/\o.simple=true/\σ n=m/\o'=o.ren σ
theorem Lies.rep {ρ:Ren} {w:World} (L:Lies K σ h0 h) (hr:Rep K ρ h w):Rep K (fun n=>ρ (σ n)) h0 w:=by
 refine⟨fun g n hg=>?_,fun n o ho=>?_,fun n n' o o' l l' hne ho ho' hl hl'=>?_⟩
 ·obtain⟨r,e⟩:=hr.glob g n hg
  exact⟨r,by rw[L.glob g n hg]; exact e⟩
 ·obtain⟨hs,o',ho',e⟩:=L.obj n o ho
  obtain⟨l,hl,hor⟩:=hr.obj _ o' ho'
  refine⟨l,hl,(Qs hs l).1 ?_⟩
  rcases e with rfl|⟨sz,els,rfl,rfl⟩
  ·exact hor
  ·obtain⟨cs,t,fr,e1,e2,_,e4⟩:=hor
   exact⟨cs,t,fr,e1,e2,(by intro h; cases h),e4⟩
 ·obtain⟨_,x,hx,e1⟩:=L.obj n o ho
  obtain⟨_,x',hx',e2⟩:=L.obj n' o' ho'
  have r1:∀ (o x:O),o.ro=false->(x=o.ren σ\/∃ sz els,o=.row sz els true/\x=(O.row sz els false).ren σ)->x.ro=false:=fun o x q e=>by
   rcases e with rfl|⟨_,_,rfl,_⟩
   ·rw[Zif]; exact q
   ·cases q
  exact fun hq=>hr.inj (σ n) (σ n') x x' l l' (L.inj n n' o o' ho ho' hne) hx hx' hl hl' (hq.imp (fun q=>r1 _ _ q e1) (fun q=>r1 _ _ q e2))
theorem Zy.frame (C0:Zy K P f args h0 v h1) (L:Lies K σ h0 h) (B:Lain σ h0 h1 h h'):Zy K P f (args.map (W.ren σ)) h (v.ren σ) h':=by
 refine⟨C0.1,fun ρ w vals r m hr hd ha=>?_⟩
 have hd0:Dom (fun n=>ρ (σ n)) h0.next:=fun n hn=>by
  show ρ (σ n)=none
  rw[L.new n hn]
  exact hd _ oM
 refine (C0.2 (fun n=>ρ (σ n)) w vals r m (L.rep hr) hd0 ((Sy W9).1 (Nr.1 ha))).mono ?_
 rintro e w' ⟨ρ0,val,rfl,aft,hv⟩
 let ρ':Ren:=fun m=>if m<h.next then ρ m else ρ0 (h0.next+(m - h.next))
 have hρ:(fun n=>ρ' (σ n))=ρ0:=by
  funext n
  by_cases hn:n<h0.next
  ·have h1:=L.old n hn
   have e:ρ' (σ n)=ρ (σ n):=if_pos h1
   show ρ' (σ n)=ρ0 n
   rw[e]
   cases hx:ρ0 n with
   | none =>
    cases hy:ρ (σ n) with
    | none=>rfl
    | some l =>
     have:=aft.le n l hy
     rw[hx] at this
     cases this
   | some l =>
    rcases aft.new n l hx with hy|hy
    ·exact hy
    ·omega
  ·have e1:=L.new n oM
   show ρ' (σ n)=ρ0 n
   have e:ρ' (σ n)=ρ0 (h0.next+(σ n - h.next)):=if_neg (by rw[e1]; omega)
   rw[e]
   congr 1
   omega
 have hle:Ren.le ρ ρ':=fun n l hl=>by
  have:n<h.next:=by
   rcases Nat.lt_or_ge n h.next with h1|h1
   ·exact h1
   ·rw[hd n h1] at hl; cases hl
  show (if n<h.next then ρ n else _)=some l
  rw[if_pos this]
  exact hl
 have hup:=aft.up
 have mine0:∀ k,Mine (fun n=>ρ (σ n)) h0 k->Mine ρ h k:=by
  rintro k ⟨n,o,l,ho,hro,hl,hk⟩
  obtain⟨_,o',ho',e⟩:=L.obj n o ho
  rcases e with rfl|⟨sz,els,rfl,rfl⟩
  ·exact⟨σ n,_,l,ho',by rw[Zif]; exact hro,hl,hk⟩
  ·cases hro
 have away:∀ m o l,h.get m=some o->(∀ n o,h0.get n=some o->σ n=m->o.ro=true)->ρ m=some l->¬ Mine (fun n=>ρ (σ n)) h0 l.blk:=by
  rintro m o l ho hn hl ⟨n,o0,l0,ho0,hro,hl0,hk⟩
  by_cases e:σ n=m
  ·rw[hn n o0 ho0 e] at hro
   cases hro
  ·obtain⟨_,o',ho',e'⟩:=L.obj n o0 ho0
   have r1:o'.ro=false:=by
    rcases e' with rfl|⟨_,_,rfl,_⟩
    ·rw[Zif]; exact hro
    ·cases hro
   exact hr.inj (σ n) m o' o l0 l e ho' ho hl0 hl (.inl r1) hk
 have mine1:∀ n o l,h1.get n=some o->o.ro=false->ρ' (σ n)=some l->Mine ρ0 h1 l.blk:=fun n o l ho hro hl=>⟨n,o,l,ho,hro,by rw[<-hρ]; exact hl,rfl⟩
 refine⟨ρ',val,rfl,⟨hle,fun m l hm=>?_,⟨fun g n hg=>?_,fun m o ho=>?_,fun m m' o o' l l' hne ho ho' hl hl'=>?_⟩,⟨aft.fr.os,aft.fr.tape,aft.fr.output,aft.fr.size,fun k hk hn=>aft.fr.keep k hk (fun h=>hn (mine0 k h)),fun k hk=>?_,fun m o ho hro=>?_⟩,by rw[B.next]; omega⟩,?_⟩
 ·
  by_cases h1:m<h.next
  ·have:ρ' m=ρ m:=if_pos h1
   exact .inl (this ▸ hm)
  ·have e:ρ' m=ρ0 (h0.next+(m - h.next)):=if_neg h1
   rw[e] at hm
   rcases aft.new _ _ hm with hy|hy
   ·rw[hd0 _ oM] at hy; cases hy
   ·right
    rw[B.next]
    omega
 ·obtain⟨r,e⟩:=hr.glob g n hg
  exact⟨r,hle _ _ e⟩
 ·rcases B.obj m o ho with ⟨ho1,hn⟩|⟨n,o0,ho1,hro,hs,rfl,rfl⟩
  ·obtain⟨l,hl,hor⟩:=hr.obj m o ho1
   refine⟨l,hle _ _ hl,(hor.congr ?_).mono hle⟩
   exact aft.fr.keep l.blk hor.lt (away m o l ho1 hn hl)
  ·obtain⟨l,hl,hor⟩:=aft.rep.obj n o0 ho1
   rw[<-hρ] at hl hor
   exact⟨l,hl,(Qs hs l).2 hor⟩
 ·rcases B.obj m o ho with ⟨ho1,hn⟩|⟨n,o0,ho1,hro,hs,rfl,rfl⟩
  ·obtain⟨lm,hlm,hor⟩:=hr.obj m o ho1
   have e:=hle _ _ hlm
   rw[hl] at e
   cases e
   rcases B.obj m' o' ho' with ⟨ho2,hn'⟩|⟨n',o0',ho2,hro',hs',rfl,rfl⟩
   ·obtain⟨lm',hlm',hor'⟩:=hr.obj m' o' ho2
    have e:=hle _ _ hlm'
    rw[hl'] at e
    cases e
    exact hr.inj m m' o o' l l' hne ho1 ho2 hlm hlm'
   ·intro _ e
    rcases aft.fr.fresh l'.blk (mine1 n' o0' l' ho2 hro' hl') with h2|h2
    ·have:=hor.lt; omega
    ·exact away m o l ho1 hn hlm (e ▸ h2)
  ·rcases B.obj m' o' ho' with ⟨ho2,hn'⟩|⟨n',o0',ho2,hro',hs',rfl,rfl⟩
   ·obtain⟨lm',hlm',hor'⟩:=hr.obj m' o' ho2
    have e:=hle _ _ hlm'
    rw[hl'] at e
    cases e
    intro _ e
    rcases aft.fr.fresh l.blk (mine1 n o0 l ho1 hro hl) with h2|h2
    ·have:=hor'.lt; omega
    ·exact away m' o' l' ho2 hn' hlm' (e ▸ h2)
   ·refine fun _=>aft.rep.inj n n' o0 o0' l l' (fun e=>hne (by rw[e])) ho1 ho2 ?_ ?_ (.inl hro)
    ·rw[<-hρ]; exact hl
    ·rw[<-hρ]; exact hl'
 ·obtain⟨m,o,l,ho,hro,hl,hk⟩:=hk
  rcases B.obj m o ho with ⟨ho1,hn⟩|⟨n,o0,ho1,hro1,hs,rfl,rfl⟩
  ·obtain⟨lm,hlm,_⟩:=hr.obj m o ho1
   have e:=hle _ _ hlm
   rw[hl] at e
   cases e
   exact .inr ⟨m,o,l,ho1,hro,hlm,hk⟩
  ·have h2:=mine1 n o0 l ho1 hro1 hl
   rw[hk] at h2
   rcases aft.fr.fresh k h2 with h3|h3
   ·exact .inl h3
   ·exact .inr (mine0 k h3)
 ·rcases B.obj m o ho with ⟨ho1,_⟩|⟨n,o0,ho1,hro1,hs,rfl,rfl⟩
  ·exact ho1
  ·rw[Zif,hro1] at hro; cases hro
 ·rw[Zom,hρ]
  exact hv
end
open Go.RowKit
structure Goes (K:Cfg) (P:Program) (n:Nat) (rd:Option Nat) (c:Code) (ds:List Nat) (ts:Zw) (h:H) (Q:X->List Nat->Zw->H->Prop):Prop where
 ex:∃ x ds' ts' h',Yf K P n rd c ds ts h x ds' ts' h'/\Q x ds' ts' h'
def then2 (p:Option (Zw × H)) (Q:Zw->H->Prop):Prop:=match p with
 | some p=>Q p.1 p.2
 | none=>False
section
variable {K:Cfg} {P:Program} {n:Nat} {rd:Option Nat} {ds:List Nat} {ts:Zw} {h:H} {Q R:X->List Nat->Zw->H->Prop} {a b c:Code} {id:Nat}
theorem Goes.mono (g:Goes K P n rd c ds ts h Q) (hq:∀ x ds ts h,Q x ds ts h->R x ds ts h):Goes K P n rd c ds ts h R:=by
 obtain⟨x,ds',ts',h',g1,g2⟩:=g
 exact⟨x,ds',ts',h',g1,hq _ _ _ _ g2⟩
theorem Zu (g:Goes K P n rd a ds ts h fun x ds ts h=>match x with
  | .normal=>Goes K P n rd b ds ts h Q
  | x=>Q x ds ts h):Goes K P n rd (.seq a b) ds ts h Q:=by
 obtain⟨x,ds',ts',h',g1,g2⟩:=g
 cases x with
 | normal =>
  obtain⟨y,ds2,ts2,h2,g3,g4⟩:=g2
  exact⟨y,ds2,ts2,h2,Yf.seq g1 g3,g4⟩
 | exit id=>exact⟨_,_,_,_,Yf.Zu2 (by intro e; cases e) g1,g2⟩
 | ret=>exact⟨_,_,_,_,Yf.Zu2 (by intro e; cases e) g1,g2⟩
theorem Jc (g:Goes K P n rd b ds ts h fun x ds ts h=>match x with
  | .normal=>Q .normal ds ts h
  | .ret=>Q .ret ds ts h
  | .exit id'=>if id'=id then Q .normal ds ts h else False):Goes K P n rd (.block id b) ds ts h Q:=by
 obtain⟨x,ds',ts',h',g1,g2⟩:=g
 cases x with
 | normal=>exact⟨_,_,_,_,Yf.block g1,g2⟩
 | ret=>exact⟨_,_,_,_,Yf.Zjx g1,g2⟩
 | exit id' =>
  simp only at g2
  split at g2
  ·rename_i e
   subst e
   exact⟨_,_,_,_,Yf.Zgq g1,g2⟩
  ·exact g2.elim
theorem J8 (g:Goes K P n rd b ds ts h fun x ds ts h=>match x with
  | .normal=>Goes K P n rd (.loop b) ds ts h Q
  | x=>Q x ds ts h):Goes K P n rd (.loop b) ds ts h Q:=by
 obtain⟨x,ds',ts',h',g1,g2⟩:=g
 cases x with
 | normal =>
  obtain⟨y,ds2,ts2,h2,g3,g4⟩:=g2
  exact⟨y,ds2,ts2,h2,Yf.loop g1 g3,g4⟩
 | exit id=>exact⟨_,_,_,_,Yf.Zpb (by intro e; cases e) g1,g2⟩
 | ret=>exact⟨_,_,_,_,Yf.Zpb (by intro e; cases e) g1,g2⟩
theorem Goes.cond {o:Operand} {v:Bool} (hc:Zz K ts o=some (.bool v)) (g:if v=true then Goes K P n rd a ds ts h Q else Goes K P n rd b ds ts h Q):Goes K P n rd (.cond o a b) ds ts h Q:=by
 cases v with
 | true =>
  obtain⟨x,ds',ts',h',g1,g2⟩:=g
  exact⟨_,_,_,_,Yf.cond_true hc g1,g2⟩
 | false =>
  simp only[Bool.false_eq_true,if_false] at g
  obtain⟨x,ds',ts',h',g1,g2⟩:=g
  exact⟨_,_,_,_,Yf.cond_false hc g1,g2⟩
theorem Goes.Z88 {o:Operand} (hc:Zz K ts o=some (.bool true)) (g:Goes K P n rd a ds ts h Q):Goes K P n rd (.cond o a b) ds ts h Q:=Goes.cond hc g
theorem Goes.Z87 {o:Operand} (hc:Zz K ts o=some (.bool false)) (g:Goes K P n rd b ds ts h Q):Goes K P n rd (.cond o a b) ds ts h Q:=Goes.cond hc g
theorem Goes.scope (g:Goes K P n rd b ds ts h Q):Goes K P n rd (.scope b) ds ts h Q:=by
 obtain⟨x,ds',ts',h',g1,g2⟩:=g
 exact⟨_,_,_,_,Yf.scope g1,g2⟩
theorem Goes.label {l:Nat} (q:Q .normal ds ts h):Goes K P n rd (.label l) ds ts h Q:=⟨_,_,_,_,Yf.label,q⟩
theorem Ye (q:Q .normal ds ts h):Goes K P n rd .skip ds ts h Q:=⟨_,_,_,_,Yf.skip,q⟩
theorem Gr (q:Q (.exit id) ds ts h):Goes K P n rd (.exit id) ds ts h Q:=⟨_,_,_,_,Yf.exit,q⟩
theorem Yc (q:Q .ret ds ts h):Goes K P n rd .ret ds ts h Q:=⟨_,_,_,_,Yf.ret,q⟩
abbrev GoS (K:Cfg) (P:Program) (n:Nat) (rd:Option Nat) (c:Code) (ds:List Nat) (ts:Zw) (h:H) (Q:X->List Nat->Zw->H->Prop):Prop:=match c with
 | .seq a b=>Goes K P n rd a ds ts h fun x ds ts h=>match x with
  | .normal=>Goes K P n rd b ds ts h Q
  | x=>Q x ds ts h
 | .block id b=>Goes K P n rd b ds ts h fun x ds ts h=>match x with
  | .normal=>Q .normal ds ts h
  | .ret=>Q .ret ds ts h
  | .exit id'=>if id'=id then Q .normal ds ts h else False
 | .loop b=>Goes K P n rd b ds ts h fun x ds ts h=>match x with
  | .normal=>Goes K P n rd (.loop b) ds ts h Q
  | x=>Q x ds ts h
 | .skip=>Q .normal ds ts h
 | .exit id=>Q (.exit id) ds ts h
 | .ret=>Q .ret ds ts h
 | _=>False
theorem gS {K:Cfg} {P:Program} {n:Nat} {rd:Option Nat} {c:Code} {ds:List Nat} {ts:Zw} {h:H} {Q:X->List Nat->Zw->H->Prop} (g:GoS K P n rd c ds ts h Q):Goes K P n rd c ds ts h Q:=by
 cases c with
 | seq a b=>exact Zu g
 | block id b=>exact Jc g
 | loop b=>exact J8 g
 | skip=>exact Ye g
 | exit id=>exact Gr g
 | ret=>exact Yc g
 | _=>exact g.elim
theorem Goes.ok {x:X} {ds':List Nat} {ts':Zw} {h':H} (g:Yf K P n rd c ds ts h x ds' ts' h') (q:Q x ds' ts' h'):Goes K P n rd c ds ts h Q:=⟨_,_,_,_,g,q⟩
theorem Goes.congr {ts':Zw} (e:∀ i,Ze ts i=Ze ts' i) (g:Goes K P n rd c ds ts h Q):Goes K P n rd c ds ts' h Q:=by
 obtain⟨x,ds',ts2,h',g1,g2⟩:=g
 exact⟨x,ds',ts2,h',Yf.congr e g1,g2⟩
def E0:Task->Option Out:=fun _=>none
theorem Za:Sound K P E0:=⟨fun _ _ _ _ _ h=>(by cases h),fun _ _ _ _ _ _ _ _ _ _ h=>(by cases h),fun _ _ h=>(by cases h)⟩
open Classical in
noncomputable def E1 (E:Task->Option Out) (f:FuncId) (args:List W) (h:H) (v:V) (h':H):Task->Option Out:=fun t=>if t=.call f args h then some (.val v h') else E t
theorem Zp {E:Task->Option Out} (S:Sound K P E) {f:FuncId} {args:List W} {v:V} {h':H} (c:Zy K P f args h v h'):Sound K P (E1 E f args h v h'):=by
 refine⟨fun g us k u k' he=>?_,fun c n rd ds ts h x ds' ts' h' he=>?_,fun t o he=>?_⟩
 ·simp only[E1] at he
  split at he
  ·rename_i e
   cases e
   cases he
   exact c
  ·exact S.call g us k u k' he
 ·simp only[E1] at he
  split at he
  ·rename_i e
   cases e
  ·exact S.code c n rd ds ts h x ds' ts' h' he
 ·simp only[E1] at he
  split at he
  ·rename_i e
   cases e
   cases he
   exact .inl ⟨_,_,_,_,_,rfl,rfl⟩
  ·exact S.shape t o he
theorem Z4 (E:Task->Option Out) (f:FuncId) (args:List W) (h:H) (v:V) (h':H):E1 E f args h v h' (.call f args h)=some (.val v h'):=by simp [E1]
theorem Goes.ops (F:Fits K P) (Hh:Hearts K P) {E:Task->Option Out} (S:Sound K P E) {ops:Array Oper} (g:then2 (Nc K E ops.toList n ops.toList ts h) fun ts h=>Q .normal ds ts h):Goes K P n rd (.region id ops false) ds ts h Q:=by
 cases e:Nc K E ops.toList n ops.toList ts h with
 | none=>rw[e] at g; exact g.elim
 | some p =>
  obtain⟨ts',h'⟩:=p
  rw[e] at g
  have T:=Lv F Hh S (Zah F S)
  refine⟨.normal,ds,ts',h',T.code (.region id ops false) n rd ds ts h .normal ds ts' h' ?_,g⟩
  show Zh5 ds (Nc K E ops.toList n ops.toList ts h)=_
  rw[e]
  rfl
theorem Goes.drawn (F:Fits K P) (Hh:Hearts K P) {E:Task->Option Out} (S:Sound K P E) {ops:Array Oper} (g:then2 (V6 K E ops.toList n ts h) fun ts h=>Q .normal ds ts h):Goes K P n rd (.region id ops true) ds ts h Q:=by
 cases e:V6 K E ops.toList n ts h with
 | none=>rw[e] at g; exact g.elim
 | some p =>
  obtain⟨ts',h'⟩:=p
  rw[e] at g
  have T:=Lv F Hh S (Zah F S)
  refine⟨.normal,ds,ts',h',T.code (.region id ops true) n rd ds ts h .normal ds ts' h' ?_,g⟩
  show Zh5 ds (V6 K E ops.toList n ts h)=_
  rw[e]
  rfl
theorem Goes.ev (F:Fits K P) (Hh:Hearts K P) {Y:Kn} (hX:Zfk K P Y) {k:Nat} {x:X} {ds':List Nat} {ts':Zw} {h':H} (e:evX K Y k (.code c n rd ds ts h)=some (.at x ds' ts' h')) (q:Q x ds' ts' h'):Goes K P n rd c ds ts h Q :=
 ⟨_,_,_,_,Yf.ev F Hh hX e,q⟩
theorem Zy.goes (F:Fits K P) (Hh:Hearts K P) {f:FuncId} {fn:Func} {body:Code} {args:List W} {v:V} {h':H} (hc:K.clones.contains f=false) (hs:K.sorted.lookup f=none) (hf:K.funcs.get f=some fn) (hb:fn.body=some body) (hn:Nat.ble args.length fn.ntmps=true)
  (g:Goes K P fn.ntmps none body [] (U2 0 args .nil) h fun x ds ts h1=>leave K fn (some (.at x ds ts h1))=some (.val v h')):Zy K P f args h v h':=by
 obtain⟨x,ds',ts',h1,g1,g2⟩:=g
 exact Zy.body F Hh hc hs hf hb hn g1 g2
theorem Yh {s k d:Nat} {v:V} (hs:s<=k) (hd:k<d):Ze (ts.set d v) s=Ze ts s:=by rw[Zo,if_neg oM]
theorem Gl (args:List W) (j:Nat):Ze (U2 0 args .nil) j=match args[j]? with
  | some v=>.w v
  | none=>undef:=by
 rw[Wq]
 by_cases e:j<args.length
 ·rw[if_pos ⟨Nat.zero_le _,oM⟩]; simp only[Nat.sub_zero]; rfl
 ·rw[if_neg oM,List.getElem?_eq_none oM]; rfl
theorem Goes.ops2 (F:Fits K P) (Hh:Hearts K P) {E:Task->Option Out} (S:Sound K P E) {ops:Array Oper} {ts':Zw} {h':H} (g:Nc K E ops.toList n ops.toList ts h=some (ts',h')) (q:Q .normal ds ts' h'):Goes K P n rd (.region id ops false) ds ts h Q :=
 Goes.ops F Hh S (by rw[g]; exact q)
theorem Zy.tidy {f:FuncId} {args:List W} {v:V} {h':H} (hc:Gw P f) (c:(∀ n o,h.get n=some o->n<h.next)->Zy K P f args h v h'):Zy K P f args h v h':=by
 by_cases e:∀ n o,h.get n=some o->n<h.next
 ·exact c e
 ·refine⟨hc,fun ρ w vals r m hr hd ha=>(e fun n o ho=>?_).elim⟩
  obtain⟨l,hl,_⟩:=hr.obj n o ho
  rcases Nat.lt_or_ge n h.next with h1|h1
  ·exact h1
  ·rw[hd n h1] at hl; cases hl
end
section
variable {K:Cfg} {E:Task->Option Out} {n:Nat} {ts:Zw} {h:H} {all:List Oper}
theorem Zot (d:Option Tmp) (op:Op) (t:TypeId) (p:String) (a:Array Edge) (j:Nat) (b:Bool):Zcq K E all n ts h ⟨d,op,t,p,a,some (j,b)⟩=bif De all ts (some (j,b)) then X7 n ts d (J4 K E ts h op) else X7 n ts d (some (undef,h)):=rfl
theorem Zya (c a b:Operand):J4 K E ts h (.pick c a b)=Rs h (Qt K ts a b (Zz K ts c)):=rfl
theorem Zx6 (t:TypeId):J4 K E ts h (.alloc t)=Xh h (K.types.get t):=rfl
theorem Z2m (t:TypeId) (x:Operand):J4 K E ts h (.box t x)=Yy h (evalW K ts x):=rfl
theorem Zvf (t:TypeId) (ps:Array (Nat × Operand)):J4 K E ts h (.build t ps)=Lf h (Yg K t (J9 K ts ps.toList)):=rfl
theorem Zge (t:TypeId) (len:Nat) (ps:Array (Nat × Operand)):J4 K E ts h (.buildSlice t len ps)=Jn h len (Y7 K t) (J9 K ts ps.toList):=rfl
theorem Zlq (x:Operand):J4 K E ts h (.nilCheck x)=Gf h (Dt (Zz K ts x)):=rfl
theorem Zjb (t:TypeId) (l c:Operand):J4 K E ts h (.makeSlice t l c)=Un h (Y7 K t) (U9 (Zz K ts l)) (U9 (Zz K ts c)):=rfl
theorem Zi9 (t:TypeId) (x:Operand) (f:Nat):J4 K E ts h (.fieldAddr t x f)=Gf h (Bd (Zz K ts x) (Zm K t f)):=rfl
theorem Zvg (t:TypeId) (x:Operand) (f:Nat):J4 K E ts h (.field t x f)=Lf h (Rz (evalW K ts x) (Zm K t f)):=rfl
theorem Zoa (x:Operand) (i:Nat):J4 K E ts h (.extract x i)=Lf h (Fp i (Ba K ts x)):=rfl
theorem Zq0 (t:TypeId) (x k:Operand) (ok:Bool):J4 K E ts h (.lookup t x k ok)=Tz K h (Db K t) (Zz K ts x) (evalW K ts k) ok:=rfl
theorem Zjc (t:TypeId) (m k v:Operand):J4 K E ts h (.mapUpdate t m k v)=Fq K h (Db K t) (Zz K ts m) (evalW K ts k) (evalW K ts v):=rfl
theorem Zx3 (k:IntKind) (z:Int):Zd2 (.int k z)=some (.w (.c (.int k z))):=rfl
theorem Zu9 (b:Bool):Zd2 (.bool b)=some (.w (.c (.bool b))):=rfl
theorem Zwf (k:IntKind) (i:Nat):U9 (some (.int k (i:Int)))=some i:=rfl
theorem Zwe (k:IntKind) (i:Nat):U9 (some (.int k (OfNat.ofNat i:Int)))=some i:=rfl
theorem Zt4 (x:C):(W.c x).cells=[x]:=rfl
theorem Zt5 (l:List C):(W.g l).cells=l:=rfl
theorem Qy {l:List C} (h:0<l.length):Zk l.length [l] 0 l.length=some l:=by
 have e:Nat.beq l.length 0=false:=by
  cases hx:Nat.beq l.length 0 with
  | false=>rfl
  | true=>have:=bQ hx; omega
 simp only[Zk,Nat.zero_div,Nat.zero_mod,List.getElem?_cons_zero,List.drop_zero,Nat.zero_add,e,cond_false]
 rw[List.take_of_length_le (Nat.le_refl _),Nat.ble_eq_true_of_le (Nat.le_refl _)]
 rfl
theorem Xv {l l':List C} (h:0<l'.length) (e:l.length=l'.length):Z5 l'.length [l] 0 l'=some [l']:=by
 match l',h with
 | [c],_ =>
  match l,e with
  | [d],_=>simp [Z5]; rfl
 | a :: b :: r,_ =>
  simp only[Z5,Nat.zero_div,Nat.zero_mod,List.getElem?_cons_zero,Nat.zero_add,List.take_zero,List.nil_append]
  rw[Nat.ble_eq_true_of_le oM,List.drop_of_length_le oM]
  simp
theorem D5 (fn:Func) (ds:List Nat):leave K fn (some (.at .ret ds ts h))=finish K fn ts (Jt ds h):=rfl
theorem Zmn (fn:Func) (ds:List Nat):leave K fn (some (.at .normal ds ts h))=finish K fn ts (Jt ds h):=rfl
theorem nbeq10:Nat.beq 1 0=false:=rfl
theorem Z8y:(true == true)=true:=rfl
theorem Z8x:(true == false)=false:=rfl
theorem Z8w:(false == true)=false:=rfl
theorem Z8v:(false == false)=true:=rfl
theorem Yr:decide True=true:=rfl
theorem Yj:decide False=false:=rfl
theorem Gb {a b:Nat} (h:a<b):Nat.blt a b=true:=by simpa [Nat.blt_eq] using h
theorem wrap64 {z:Int} (h : -9223372036854775808<=z) (h':z<9223372036854775808):Jb .i64 z=.int .i64 z:=by
 unfold Jb IntKind.wrap
 congr 1
 show (if (true&&decide (z % 18446744073709551616 >= 9223372036854775808))=true then z % 18446744073709551616 - 18446744073709551616 else z % 18446744073709551616)=z
 rw[Bool.true_and]
 by_cases e:z % 18446744073709551616 >= 9223372036854775808
 ·rw[decide_eq_true e,if_pos rfl]; omega
 ·rw[decide_eq_false e,if_neg (by simp)]; omega
theorem Z05 {z:Int}:Jb .u8 z=.int .u8 (z % 256):=by
 unfold Jb IntKind.wrap
 congr 1
end
def Ug (fn:Func):Code:=match fn.body with
 | some c=>c
 | none=>.skip
def part (k:Nat) (c:Code):Code:=match k,c with
 | 0,.seq a _=>a
 | 1,.seq _ b=>b
 | 2,.block _ b=>b
 | 2,.loop b=>b
 | 2,.scope b=>b
 | 3,.cond _ a _=>a
 | 4,.cond _ _ b=>b
 | 5,.rangeFunc _ _ a _=>a
 | 6,.rangeFunc _ _ _ b=>b
 | _,_=>.skip
theorem part0 (a b:Code):part 0 (.seq a b)=a:=rfl
theorem part1 (a b:Code):part 1 (.seq a b)=b:=rfl
theorem part2 (i:Nat) (b:Code):part 2 (.block i b)=b:=rfl
theorem Z7s (b:Code):part 2 (.loop b)=b:=rfl
theorem Z7t (b:Code):part 2 (.scope b)=b:=rfl
theorem part3 (o:Operand) (a b:Code):part 3 (.cond o a b)=a:=rfl
theorem part4 (o:Operand) (a b:Code):part 4 (.cond o a b)=b:=rfl
theorem part5 (g:Operand) (ps:Array Tmp) (a b:Code):part 5 (.rangeFunc g ps a b)=a:=rfl
theorem part6 (g:Operand) (ps:Array Tmp) (a b:Code):part 6 (.rangeFunc g ps a b)=b:=rfl
def piece:List Nat->Code->Code
 | [],c=>c
 | k :: l,c=>piece l (part k c)
def Z7q:Code->Array Oper
 | .region _ ops _=>ops
 | _=>#[]
open Go.RowKit
section
variable {K:Cfg} {P:Program} {h h1 h':H} {f:FuncId} {args:List W} {v v':V} {τ:Nat->Nat}
theorem Zy.Zdh (c:Zy K P f args h v h1) (hold:∀ m,m<h.next->τ m=m) (hbig:∀ m,h'.next<=m->h1.next<=τ m) (hup:h.next<=h'.next) (hv:v'.ren τ=v)
  (hobj:∀ m o,h'.get m=some o->(h.get m=some o/\h1.get m=some o)\/(o.simple=true/\o.ro=false/\h1.get (τ m)=some (o.ren τ)))
  (hinj:∀ m m' o o',h'.get m=some o->h'.get m'=some o'->m≠m'->τ m≠τ m'):Zy K P f args h v' h':=by
 refine⟨c.1,fun ρ w vals r m hr hd ha=>(c.2 ρ w vals r m hr hd ha).mono ?_⟩
 rintro e w' ⟨ρ',val,rfl,aft,hcon⟩
 have hd1:=aft.dom hd
 have lt:∀ m o,h.get m=some o->m<h.next:=fun m o ho=>by
  obtain⟨l,hl,_⟩:=hr.obj m o ho
  rcases Nat.lt_or_ge m h.next with h1|h1
  ·exact h1
  ·rw[hd m h1] at hl; cases hl
 have at1:∀ m o,h'.get m=some o->∃ o1,h1.get (τ m)=some o1/\o1.ro=o.ro:=fun m o ho=>by
  rcases hobj m o ho with ⟨a,b⟩|⟨_,_,b⟩
  ·exact⟨o,by rw[hold m (lt m o a)]; exact b,rfl⟩
  ·exact⟨_,b,Zif o⟩
 have hle:Ren.le ρ (fun n=>ρ' (τ n)):=fun n l hl=>by
  have:n<h.next:=by
   rcases Nat.lt_or_ge n h.next with h1|h1
   ·exact h1
   ·rw[hd n h1] at hl; cases hl
  show ρ' (τ n)=some l
  rw[hold n this]
  exact aft.le n l hl
 refine⟨fun n=>ρ' (τ n),val,rfl,⟨hle,fun m l hm=>?_,⟨fun g n hg=>?_,fun m o ho=>?_,fun m m' o o' l l' hne ho ho' hl hl'=>?_⟩,⟨aft.fr.os,aft.fr.tape,aft.fr.output,aft.fr.size,aft.fr.keep,fun k hk=>?_,fun m o ho hro=>?_⟩,hup⟩,?_⟩
 ·have hm':ρ' (τ m)=some l:=hm
  rcases Nat.lt_or_ge m h.next with h2|h2
  ·rw[hold m h2] at hm'
   rcases aft.new m l hm' with h3|h3
   ·exact .inl h3
   ·omega
  ·rcases Nat.lt_or_ge m h'.next with h3|h3
   ·exact .inr ⟨h2,h3⟩
   ·rw[hd1 _ (hbig m h3)] at hm'; cases hm'
 ·obtain⟨r,e⟩:=hr.glob g n hg
  exact⟨r,hle _ _ e⟩
 ·rcases hobj m o ho with ⟨a,b⟩|⟨hs,_,b⟩
  ·obtain⟨l,hl,hor⟩:=hr.obj m o a
   obtain⟨l1,hl1,hor1⟩:=aft.rep.obj m o b
   have e:ρ' (τ m)=some l1:=by rw[hold m (lt m o a)]; exact hl1
   refine⟨l1,e,(hor1.cut (hor.sc hd)).mono fun n l hn=>?_⟩
   unfold Ren.cut at hn
   split at hn
   ·rename_i h2
    show ρ' (τ n)=some l
    rw[hold n h2]
    exact hn
   ·cases hn
  ·obtain⟨l,hl,hor⟩:=aft.rep.obj _ _ b
   exact⟨l,hl,(Qs hs l).1 hor⟩
 ·obtain⟨o1,ho1,hro1⟩:=at1 m o ho
  obtain⟨o1',ho1',hro2⟩:=at1 m' o' ho'
  exact fun hq=>aft.rep.inj (τ m) (τ m') o1 o1' l l' (hinj m m' o o' ho ho' hne) ho1 ho1' hl hl' (by rw[hro1,hro2]; exact hq)
 ·obtain⟨m,o,l,ho,hro,hl,hk⟩:=hk
  obtain⟨o1,ho1,hro1⟩:=at1 m o ho
  exact aft.fr.fresh k ⟨τ m,o1,l,ho1,by rw[hro1]; exact hro,hl,hk⟩
 ·rcases hobj m o ho with ⟨a,_⟩|⟨_,b,_⟩
  ·exact a
  ·rw[b] at hro; cases hro
 ·rw[<-Zom,hv]
  exact hcon
def C.flat:C->Bool
 | .bool _|.int _ _|.str _|.pnil|.snil|.mnil|.nilFn=>true
 | _=>false
def W.flat:W->Bool
 | .c x=>x.flat
 | .g l=>l.all C.flat
def V.flat:V->Bool
 | .w x=>x.flat
 | .tup l=>l.all W.flat
theorem C.Je {c:C} (h:c.flat=true) (σ:Nat->Nat):c.ren σ=c:=by cases c<;>first|rfl|cases h
theorem Ua {α:Type} {g:α->α} {p:α->Bool} (hg:∀ a,p a=true->g a=a):∀ {l:List α},l.all p=true->l.map g=l
 | [],_=>rfl
 | a :: l,h=>by
  simp only[List.all_cons,aQ] at h
  rw[List.map_cons,hg a h.1,Ua hg h.2]
theorem W.Je {x:W} (h:x.flat=true) (σ:Nat->Nat):x.ren σ=x:=by
 cases x with
 | c x=>show W.c _=_; rw[C.Je h]
 | g l=>show W.g _=_; rw[Ua (fun a ha=>C.Je ha σ) h]
theorem V.Je {x:V} (h:x.flat=true) (σ:Nat->Nat):x.ren σ=x:=by
 cases x with
 | w x=>show V.w _=_; rw[W.Je h]
 | tup l=>show V.tup _=_; rw[Ua (fun a ha=>W.Je ha σ) h]
theorem Zy.quiet (c:Zy K P f args h v h1) (hv:v.flat=true) (hk:∀ m,m<h.next->h1.get m=h.get m):Zy K P f args h v h:=by
 refine Zy.tidy c.1 fun tidy=>?_
 refine c.Zdh (τ:=fun m=>if m<h.next then m else h1.next+m) (fun m hm=>if_pos hm) (fun m hm=>?_) (Nat.le_refl _) (V.Je hv _) (fun m o ho=>.inl ⟨ho,?_⟩) (fun m m' o o' ho ho' hne=>?_)
 ·show h1.next<=if m<h.next then m else h1.next+m
  rw[if_neg oM]
  omega
 ·rw[hk m (tidy m o ho)]; exact ho
 ·have e1:=tidy m o ho
  have e2:=tidy m' o' ho'
  show (if m<h.next then m else _)≠(if m'<h.next then m' else _)
  rw[if_pos e1,if_pos e2]
  exact hne
theorem Zy.row {n off len sz:Nat} {els:List (List C)} {ws:List W} (c:Zy K P f args h (.tup (.c (.slice n off len sz) :: ws)) h1) (hn:h.next<=n) (ho:h1.get n=some (.row sz els false)) (hw:ws.all W.flat=true) (he:els.all (fun l=>l.all C.flat)=true) (hlt:n<h1.next) (hk:∀ m,m<h.next->h1.get m=h.get m) :
  Zy K P f args h (.tup (.c (.slice h.next off len sz) :: ws)) (h.new (.row sz els false)):=by
 refine Zy.tidy c.1 fun tidy=>?_
 have hτ:∀ m,m<h.next->(if m<h.next then m else if m=h.next then n else h1.next+m)=m:=fun m hm=>if_pos hm
 have hτ2:(if h.next<h.next then h.next else if h.next=h.next then n else h1.next+h.next)=n:=by rw[if_neg oM,if_pos rfl]
 refine c.Zdh (τ:=fun m=>if m<h.next then m else if m=h.next then n else h1.next+m) hτ (fun m hm=>?_) (by rw[H.Zc]; omega) ?_ (fun m o hm=>?_) (fun m m' o o' hm hm' hne=>?_)
 ·rw[H.Zc] at hm
  show h1.next<=if m<h.next then m else if m=h.next then n else h1.next+m
  rw[if_neg oM,if_neg oM]
  omega
 ·show V.tup (W.c (C.slice (if h.next<h.next then h.next else if h.next=h.next then n else h1.next+h.next) off len sz) :: ws.map _)=_
  rw[hτ2,Ua (fun a ha=>W.Je ha _) hw]
 ·rw[H.Zg] at hm
  split at hm
  ·rename_i e
   subst e
   cases hm
   refine .inr ⟨rfl,rfl,?_⟩
   show h1.get (if h.next<h.next then h.next else if h.next=h.next then n else h1.next+h.next)=_
   rw[hτ2,ho]
   show some (O.row sz els false)=some (O.row sz (els.map (List.map (C.ren _))) false)
   rw[Ua (fun l hl=>Ua (fun a ha=>C.Je ha _) hl) he]
  ·exact .inl ⟨hm,by rw[hk m (tidy m o hm)]; exact hm⟩
 ·have key:∀ m o,(h.new (.row sz els false)).get m=some o->m<h.next\/m=h.next:=fun m o hm=>by
   rw[H.Zg] at hm
   split at hm
   ·rename_i e; exact .inr e
   ·exact .inl (tidy m o hm)
  show (if m<h.next then m else if m=h.next then n else h1.next+m)≠(if m'<h.next then m' else if m'=h.next then n else h1.next+m')
  rcases key m o hm with e|e<;>rcases key m' o' hm' with e'|e'
  ·rw[if_pos e,if_pos e']; exact hne
  ·rw[if_pos e,if_neg oM,if_pos e']; omega
  ·rw[if_neg oM,if_pos e,if_pos e']; omega
  ·omega
theorem Zy.row1 {n off len sz:Nat} {els:List (List C)} (c:Zy K P f args h (.w (.c (.slice n off len sz))) h1) (hn:h.next<=n) (ho:h1.get n=some (.row sz els false)) (he:els.all (fun l=>l.all C.flat)=true) (hlt:n<h1.next) (hk:∀ m,m<h.next->h1.get m=h.get m) :
  Zy K P f args h (.w (.c (.slice h.next off len sz))) (h.new (.row sz els false)):=by
 refine Zy.tidy c.1 fun tidy=>?_
 have hτ:∀ m,m<h.next->(if m<h.next then m else if m=h.next then n else h1.next+m)=m:=fun m hm=>if_pos hm
 have hτ2:(if h.next<h.next then h.next else if h.next=h.next then n else h1.next+h.next)=n:=by rw[if_neg oM,if_pos rfl]
 refine c.Zdh (τ:=fun m=>if m<h.next then m else if m=h.next then n else h1.next+m) hτ (fun m hm=>?_) (by rw[H.Zc]; omega) ?_ (fun m o hm=>?_) (fun m m' o o' hm hm' hne=>?_)
 ·rw[H.Zc] at hm
  show h1.next<=if m<h.next then m else if m=h.next then n else h1.next+m
  rw[if_neg oM,if_neg oM]
  omega
 ·show V.w (W.c (C.slice (if h.next<h.next then h.next else if h.next=h.next then n else h1.next+h.next) off len sz))=_
  rw[hτ2]
 ·rw[H.Zg] at hm
  split at hm
  ·rename_i e
   subst e
   cases hm
   refine .inr ⟨rfl,rfl,?_⟩
   show h1.get (if h.next<h.next then h.next else if h.next=h.next then n else h1.next+h.next)=_
   rw[hτ2,ho]
   show some (O.row sz els false)=some (O.row sz (els.map (List.map (C.ren _))) false)
   rw[Ua (fun l hl=>Ua (fun a ha=>C.Je ha _) hl) he]
  ·exact .inl ⟨hm,by rw[hk m (tidy m o hm)]; exact hm⟩
 ·have key:∀ m o,(h.new (.row sz els false)).get m=some o->m<h.next\/m=h.next:=fun m o hm=>by
   rw[H.Zg] at hm
   split at hm
   ·rename_i e; exact .inr e
   ·exact .inl (tidy m o hm)
  show (if m<h.next then m else if m=h.next then n else h1.next+m)≠(if m'<h.next then m' else if m'=h.next then n else h1.next+m')
  rcases key m o hm with e|e<;>rcases key m' o' hm' with e'|e'
  ·rw[if_pos e,if_pos e']; exact hne
  ·rw[if_pos e,if_neg oM,if_pos e']; omega
  ·rw[if_neg oM,if_pos e,if_pos e']; omega
  ·omega
theorem Xn (sz:Nat) (L:List (List C)):Rc sz L 0 sz L.length=some L:=by
 unfold Rc
 cases e:Nat.beq L.length 0 with
 | true =>
  have:=bQ e
  have:L=[]:=List.length_eq_zero_iff.1 this
  subst this
  rfl
 | false =>
  simp only[cond_false,Nat.beq_refl,cond_true,Nat.zero_mod,Nat.zero_div,Nat.zero_add,Bool.true_and,List.drop_zero]
  rw[Nat.ble_eq_true_of_le (Nat.le_refl _),List.take_of_length_le (Nat.le_refl _)]
  rfl
theorem Xr {n sz:Nat} {L:List (List C)} {ro:Bool} (ho:h.get n=some (.row sz L ro)):Oi h sz (.slice n 0 L.length sz)=some L:=by
 unfold Oi
 simp only[Nat.beq_refl,cond_true,ho,Zb8,Xn]
 cases e:Nat.beq L.length 0 with
 | true =>
  have:=bQ e
  have:L=[]:=List.length_eq_zero_iff.1 this
  subst this
  rfl
 | false=>rfl
theorem Mr {sz i j:Nat} {L:List (List C)} {x:List C} (hj:j<sz) (hx:L[i]? = some x):read1 sz L (i * sz+j)=x[j]?:=by
 unfold read1
 rw[show (i * sz+j) / sz=i by rw[Nat.mul_comm,Nat.mul_add_div oM,Nat.div_eq_of_lt hj,Nat.add_zero],show (i * sz+j) % sz=j by rw[Nat.mul_comm,Nat.mul_add_mod,Nat.mod_eq_of_lt hj],hx]
theorem Mw {sz i:Nat} {L:List (List C)} {e l:List C} (hl:l.length=sz) (h2:2<=sz) (hx:L[i]? = some e) (he:e.length=sz):Z5 sz L (i * sz) l=some (L.set i l):=by
 match l,hl with
 | a :: b :: r,hl =>
  simp only[Z5]
  rw[show i * sz / sz=i from Nat.mul_div_cancel _ oM,Nat.mul_mod_left,hx]
  simp only[Nat.zero_add,List.take_zero,List.nil_append]
  rw[hl,Nat.ble_eq_true_of_le oM,List.drop_of_length_le oM,List.append_nil]
  rfl
 | [a],hl=>simp at hl; omega
 | [],hl=>simp at hl; omega
theorem Zng {i:Nat} {L:List (List C)} {c d:C} (hx:L[i]? = some [d]):Z5 1 L i [c]=some (L.set i [c]):=by
 simp only[Z5,Nat.div_one,hx,Nat.mod_one]
 rfl
theorem Zic {sz i:Nat} {L:List (List C)} {e:List C} (h1:1<=sz) (hx:L[i]? = some e) (he:e.length=sz):Zk sz L (i * sz) sz=some e:=by
 unfold Zk
 have e0:Nat.beq sz 0=false:=by
  cases hb:Nat.beq sz 0 with
  | false=>rfl
  | true=>have:=bQ hb; omega
 rw[show i * sz / sz=i from Nat.mul_div_cancel _ oM,Nat.mul_mod_left,hx,e0]
 simp only[cond_false,Nat.zero_add,List.drop_zero]
 rw[Nat.ble_eq_true_of_le oM,List.take_of_length_le oM]
 rfl
theorem Zjv {te:TI} {n n' sz:Nat} {L M:List (List C)} {ro:Bool} (hsz:te.size=sz) (ho:h.get n=some (.row sz L false)) (ho':h.get n'=some (.row sz M ro)) (hM:M≠[]) (hb:(L.length+M.length) * te.bytes<=1099511627776) (hb':L.length+M.length<=1099511627776) :
  Oh h (some te) (.slice n 0 L.length sz) (.slice n' 0 M.length sz)=some (.w (.c (.slice h.next 0 (L.length+M.length) sz)),(h.del n).new (.row sz (L++M) false)):=by
 unfold Oh
 simp only[hsz,Xr ho,Xr ho',Zb2,cond_true]
 cases M with
 | nil=>exact absurd rfl hM
 | cons a M =>
  simp only[S9]
  rw[Nat.ble_eq_true_of_le hb,Nat.ble_eq_true_of_le hb']
  simp only[Bool.true_and,cond_true,Zb6,ho,Uh,hsz]
  rfl
theorem append_nil {te:TI} {n' sz:Nat} {M:List (List C)} {ro:Bool} (hsz:te.size=sz) (ho':h.get n'=some (.row sz M ro)) (hM:M≠[]) (hb:M.length * te.bytes<=1099511627776) (hb':M.length<=1099511627776) :
  Oh h (some te) .snil (.slice n' 0 M.length sz)=some (.w (.c (.slice h.next 0 M.length sz)),h.new (.row sz M false)):=by
 unfold Oh
 simp only[hsz,Xr ho',Zb2,cond_true]
 cases M with
 | nil=>exact absurd rfl hM
 | cons a M =>
  simp only[S9,Oi,List.length_nil,Nat.zero_add]
  rw[Nat.ble_eq_true_of_le hb,Nat.ble_eq_true_of_le hb']
  simp only[Bool.true_and,cond_true,Zb6,Uh,hsz,List.nil_append]
end
section
variable {K:Cfg} {n:Nat} {ts:Zw} {h:H}
theorem Z4i (x:Operand):Ux K ts h (.move x)=Rs h (Ba K ts x):=rfl
theorem Zwk (x:Operand):Ux K ts h (.assign x)=Rs h (Ba K ts x):=rfl
theorem Zz4 (op:BinOp) (t:TypeId) (x y:Operand) (u:TypeId):Ux K ts h (.binOp op t x y u)=Gf h (binop K op t (evalW K ts x) (evalW K ts y)):=rfl
theorem Z4k (op:UnOp) (t:TypeId) (x:Operand):Ux K ts h (.unOp op t x)=Gf h (Zqe op (Zz K ts x)):=rfl
theorem Zrx (s t:TypeId) (x:Operand):Ux K ts h (.convert s t x)=Bu h (K.types.get s) (K.types.get t) (Zz K ts x):=rfl
theorem Z4h (t:TypeId) (x:Operand):Ux K ts h (.load t x)=Zei K h t (Zz K ts x):=rfl
theorem Zz9 (t:TypeId) (x y:Operand):Ux K ts h (.store t x y)=Zat K h t (Zz K ts x) (evalW K ts y):=rfl
theorem Zmu (t:TypeId) (x i:Operand):Ux K ts h (.indexAddr t x i)=Gf h (Be K (K.types.get t) (Zz K ts x) (U9 (Zz K ts i))):=rfl
theorem Zz7 (t:TypeId) (x i:Operand):Ux K ts h (.index t x i)=Lf h (F6 K (K.types.get t) (evalW K ts x) (U9 (Zz K ts i))):=rfl
theorem Zrw (b:Builtin) (args:Array Operand) (tys:Array TypeId):Ux K ts h (.call ⟨.builtin b,args,tys⟩)=Zt K h b tys.toList (O9 K ts args.toList):=rfl
theorem Z4j (c a b:Operand):Ux K ts h (.pick c a b)=Rs h (Qt K ts a b (Zz K ts c)):=rfl
theorem Zz3 (t:TypeId):Ux K ts h (.alloc t)=Xh h (K.types.get t):=rfl
theorem Z7o (t:TypeId) (x:Operand):Ux K ts h (.box t x)=Yy h (evalW K ts x):=rfl
theorem Zz5 (t:TypeId) (ps:Array (Nat × Operand)):Ux K ts h (.build t ps)=Lf h (Yg K t (J9 K ts ps.toList)):=rfl
theorem Zjk (t:TypeId) (len:Nat) (ps:Array (Nat × Operand)):Ux K ts h (.buildSlice t len ps)=Jn h len (Y7 K t) (J9 K ts ps.toList):=rfl
theorem Zpj (x:Operand):Ux K ts h (.nilCheck x)=Gf h (Dt (Zz K ts x)):=rfl
theorem Zmv (t:TypeId) (l c:Operand):Ux K ts h (.makeSlice t l c)=Un h (Y7 K t) (U9 (Zz K ts l)) (U9 (Zz K ts c)):=rfl
theorem Zmt (t:TypeId) (x:Operand) (f:Nat):Ux K ts h (.fieldAddr t x f)=Gf h (Bd (Zz K ts x) (Zm K t f)):=rfl
theorem Zz6 (t:TypeId) (x:Operand) (f:Nat):Ux K ts h (.field t x f)=Lf h (Rz (evalW K ts x) (Zm K t f)):=rfl
theorem Zry (x:Operand) (i:Nat):Ux K ts h (.extract x i)=Lf h (Fp i (Ba K ts x)):=rfl
theorem Zwl (t:TypeId) (x k:Operand) (ok:Bool):Ux K ts h (.lookup t x k ok)=Tz K h (Db K t) (Zz K ts x) (evalW K ts k) ok:=rfl
theorem Zmw (t:TypeId) (m k v:Operand):Ux K ts h (.mapUpdate t m k v)=Fq K h (Db K t) (Zz K ts m) (evalW K ts k) (evalW K ts v):=rfl
end
theorem Zg3:∀ l:List UInt8,Tf l l=true
 | []=>rfl
 | a :: l=>by simp [Tf,Zg3 l]
theorem Zg2:∀ l:List (Option (Nat × Nat)),eqV.eqP l l=true
 | []=>rfl
 | some (a,b) :: l=>by simp [eqV.eqP,Zg2 l]
 | none :: l=>by simp [eqV.eqP,Zg2 l]
theorem Zd8 (c:C):eqV.eqCc c c=true:=by
 cases c<;>simp [eqV.eqCc,Zg3,Zg2]
theorem Zg1:∀ l:List C,eqV.eqL l l=true
 | []=>rfl
 | a :: l=>by simp [eqV.eqL,Zd8,Zg1 l]
theorem Zea:∀ l:List W,eqV.eqT2 l l=true
 | []=>rfl
 | .c a :: l=>by simp [eqV.eqT2,Zd8,Zea l]
 | .g a :: l=>by simp [eqV.eqT2,Zg1,Zea l]
theorem Zy4 (v:V):eqV v v=true:=by
 cases v with
 | w x=>cases x with
  | c a=>exact Zd8 a
  | g l=>exact Zg1 l
 | tup l=>exact Zea l
theorem Zrg (v:V) (h:H):gives v (some (v,h))=true:=Zy4 v
theorem Zwu {n:Nat} {ts:Zw} (d:Tmp) (v:V) (hd:Nat.blt d n=true):Rt n ts (some d) v=some (ts.set d v):=by
 unfold Rt
 simp only[hd,cond_true]
theorem Zwt {n:Nat} {ts:Zw} (v:V):Rt n ts none v=some ts:=rfl
theorem Em {a b:Nat} (h:a<=b):Nat.ble a b=true:=Nat.ble_eq_true_of_le h
section
variable {K:Cfg} {P:Program} {n:Nat} {rd:Option Nat} {ds:List Nat} {ts:Zw} {h:H} {Q:X->List Nat->Zw->H->Prop} {id:Nat}
theorem Goes.drawn2 (F:Fits K P) (Hh:Hearts K P) {E:Task->Option Out} (S:Sound K P E) {ops:Array Oper} {ts':Zw} {h':H} (st:(V5 0 ops.toList&&Xt ops.toList 0 ops.toList&&Ng ops.toList 0 none [] ops.toList)=true) (g:Zoq K ops.toList (Zcp K E ops.toList n 0 ops.toList ⟨ts,h,h,[],[]⟩)=some (ts',h')) (q:Q .normal ds ts' h'):Goes K P n rd (.region id ops true) ds ts h Q :=
 Goes.drawn F Hh S (by
  unfold V6
  rw[st]
  show then2 (Zoq K ops.toList _) _
  rw[g]
  exact q)
end
def Zm6:Option Out->Option V
 | some (.val v _)=>some v
 | _=>none
theorem Zk1 {o:Option Out} {v:V} (h:Zm6 o=some v):∃ h',o=some (.val v h'):=by
 unfold Zm6 at h
 split at h
 ·cases h; exact⟨_,rfl⟩
 ·cases h
section
variable {K:Cfg} {P:Program} {Y:Kn} {f:FuncId} {args:List W} {v:V}
theorem Zy.pos {h h':H} {G:Nat} (hc:Gw P f) (hg:K.globs.get G=some 0) (c:0<h.next->Zy K P f args h v h'):Zy K P f args h v h':=by
 refine⟨hc,fun ρ w vals r m hr hd ha=>?_⟩
 have hp:0<h.next:=by
  obtain⟨r,e⟩:=hr.glob G 0 hg
  rcases Nat.lt_or_ge 0 h.next with h1|h1
  ·exact h1
  ·rw[hd 0 h1] at e; cases e
 exact (c hp).2 ρ w vals r m hr hd ha
theorem Zy.closed (F:Fits K P) (Hh:Hearts K P) (hY:Zfk K P Y) {G:Nat} (hg:K.globs=Tree.set .nil G 0) {n:Nat} (e:Zm6 (evX K Y n (.call f args ⟨.nil,1⟩))=some v) (ha:args.all W.flat=true) (hv:v.flat=true) (h:H):Zy K P f args h v h:=by
 obtain⟨h1,e1⟩:=Zk1 e
 have c0:Zy K P f args ⟨.nil,1⟩ v h1:=(Nl F Hh hY n).call f args _ _ _ e1
 refine Zy.pos c0.1 (Zhe hg) fun hpos=>Zy.tidy c0.1 fun tidy=>?_
 have none0:∀ n o,¬ (⟨.nil,1⟩:H).get n=some o:=fun n o hn=>by cases hn
 have L:Lies K (fun n=>if n<1 then n else h.next+(n - 1)) ⟨.nil,1⟩ h:=by
  refine⟨fun n hn=>if_neg (by have:1<=n:=hn; omega),fun n hn=>?_,fun n o ho=>(none0 n o ho).elim,fun n n' o o' ho=>(none0 n o ho).elim,fun g n hgn=>?_⟩
  ·show (if n<1 then n else _)<h.next
   have:n<1:=hn
   rw[if_pos this]
   omega
  ·rw[(Tp hg hgn).2]; rfl
 have c1:=c0.frame L (h':=⟨h.m,h.next+(h1.next - 1)⟩) ⟨rfl,fun m o ho=>.inl ⟨ho,fun n o' ho'=>(none0 n o' ho').elim⟩⟩
 rw[Ua (fun a ha=>W.Je ha _) ha,V.Je hv] at c1
 exact c1.quiet hv fun m _=>rfl
theorem Zy.closed1 (F:Fits K P) (Hh:Hearts K P) (hY:Zfk K P Y) {G:Nat} (hg:K.globs=Tree.set .nil G 0) {n sz len:Nat} {els:List (List C)} {us:List W} (e:Zm6 (evX K Y n (.call f (us++[.c (.slice 1 0 len sz)]) ⟨.node none (.node (some (.row sz els true)) .nil .nil) .nil,2⟩))=some v) (ha:us.all W.flat=true) (he:els.all (fun l=>l.all C.flat)=true) (hv:v.flat=true) (h:H) (m:Nat) (hm:h.get m=some (.row sz els false)):Zy K P f (us++[.c (.slice m 0 len sz)]) h v h:=by
 obtain⟨h1,e1⟩:=Zk1 e
 have c0:=(Nl F Hh hY n).call f _ _ _ _ e1
 refine Zy.pos c0.1 (Zhe hg) fun hpos=>Zy.tidy c0.1 fun tidy=>?_
 have only:∀ n o,(⟨.node none (.node (some (.row sz els true)) .nil .nil) .nil,2⟩:H).get n=some o->n=1/\o=.row sz els true:=fun n o hn=>by
  have hn':(Tree.node none (.node (some (O.row sz els true)) .nil .nil) .nil).get n=some o:=hn
  rw[Tree.Gz] at hn'
  split at hn'
  ·cases hn'
  ·split at hn'
   ·rw[Tree.Gz] at hn'
    split at hn'
    ·cases hn'; exact⟨oM,rfl⟩
    ·split at hn'<;>(rw[Tree.Ex] at hn'; cases hn')
   ·rw[Tree.Ex] at hn'; cases hn'
 have fl:∀ σ:Nat->Nat,(O.row sz els false).ren σ=.row sz els false:=fun σ=>by
  show O.row sz (els.map (List.map (C.ren σ))) false=_
  rw[Ua (fun l hl=>Ua (fun a ha=>C.Je ha _) hl) he]
 have L:Lies K (fun n=>if n<1 then n else if n<2 then m else h.next+(n - 2)) ⟨.node none (.node (some (.row sz els true)) .nil .nil) .nil,2⟩ h:=by
  refine⟨fun n hn=>?_,fun n hn=>?_,fun n o ho=>?_,fun n n' o o' ho ho' hne=>?_,fun g n hgn=>?_⟩
  ·have:2<=n:=hn
   show (if n<1 then n else if n<2 then m else h.next+(n - 2))=h.next+(n - 2)
   rw[if_neg oM,if_neg oM]
  ·have:n<2:=hn
   have:=tidy m _ hm
   show (if n<1 then n else if n<2 then m else _)<h.next
   by_cases h1:n<1
   ·rw[if_pos h1]; omega
   ·rw[if_neg h1,if_pos oM]; exact this
  ·obtain⟨rfl,rfl⟩:=only n o ho
   exact⟨rfl,_,hm,.inr ⟨sz,els,rfl,(fl _).symm⟩⟩
  ·exact absurd ((only n o ho).1.trans (only n' o' ho').1.symm) hne
  ·rw[(Tp hg hgn).2]; rfl
 have c1:=Zy.frame c0 L (h':=⟨h.m,h.next+(h1.next - 2)⟩) ⟨rfl,fun k o ho=>.inl ⟨ho,fun n o' ho' _=>by rw[(only n o' ho').2]; rfl⟩⟩
 rw[List.map_append,Ua (fun a ha=>W.Je ha _) ha,V.Je hv] at c1
 exact c1.quiet hv fun m _=>rfl
end
def Oc:List C->Option (List Nat)
 | []=>some []
 | .int .u8 (.ofNat n) :: l=>bif Nat.blt n 256 then (match Oc l with
  | some r=>some (n :: r)
  | none=>none) else none
 | _=>none
theorem Zhv:∀ {l:List C} {r:List Nat},Oc l=some r->r.length=l.length/\∀ (j b:Nat),r[j]? = some b->b<256/\l[j]? = some (.int .u8 (b:Int))
 | [],r,h=>by
  cases h
  exact⟨rfl,fun j b h=>by simp at h⟩
 | .int .u8 (.ofNat n) :: l,r,h=>by
  simp only[Oc] at h
  cases hb:Nat.blt n 256 with
  | false=>rw[hb] at h; cases h
  | true =>
   rw[hb] at h
   simp only[cond_true] at h
   cases hr:Oc l with
   | none=>rw[hr] at h; cases h
   | some r' =>
    rw[hr] at h
    cases h
    obtain⟨h1,h2⟩:=Zhv hr
    refine⟨by simp [h1],fun j b hj=>?_⟩
    cases j with
    | zero =>
     simp at hj
     subst hj
     exact⟨by simpa [Nat.blt_eq] using hb,rfl⟩
    | succ j=>exact h2 j b (by simpa using hj)
 | .int .u8 (.negSucc _) :: _,_,h=>by simp [Oc] at h
 | .int .i8 _ :: _,_,h=>by simp [Oc] at h
 | .int .i16 _ :: _,_,h=>by simp [Oc] at h
 | .int .i32 _ :: _,_,h=>by simp [Oc] at h
 | .int .i64 _ :: _,_,h=>by simp [Oc] at h
 | .int .u16 _ :: _,_,h=>by simp [Oc] at h
 | .int .u32 _ :: _,_,h=>by simp [Oc] at h
 | .int .u64 _ :: _,_,h=>by simp [Oc] at h
 | .bool _ :: _,_,h=>by simp [Oc] at h
 | .str _ :: _,_,h=>by simp [Oc] at h
 | .ptr _ _ :: _,_,h=>by simp [Oc] at h
 | .pnil :: _,_,h=>by simp [Oc] at h
 | .slice _ _ _ _ :: _,_,h=>by simp [Oc] at h
 | .snil :: _,_,h=>by simp [Oc] at h
 | .map _ :: _,_,h=>by simp [Oc] at h
 | .mnil :: _,_,h=>by simp [Oc] at h
 | .fn _ _ _ :: _,_,h=>by simp [Oc] at h
 | .yield _ :: _,_,h=>by simp [Oc] at h
 | .nilFn :: _,_,h=>by simp [Oc] at h
theorem Zjo {sz off n:Nat} {els:List (List C)} {l:List C} (h:Zk sz els off n=some l) (hn:off % sz+n<=sz):l.length=n/\∀ j,j<n->read1 sz els (off+j)=l[j]?:=by
 unfold Zk at h
 cases e:Nat.beq n 0 with
 | true =>
  have:=bQ e
  subst this
  rw[e] at h
  cases h
  exact⟨rfl,fun j hj=>by omega⟩
 | false =>
  rw[e] at h
  simp only[cond_false] at h
  cases hx:els[off / sz]? with
  | none=>rw[hx] at h; cases h
  | some x =>
   rw[hx] at h
   simp only at h
   cases hb:Nat.ble (off % sz+n) x.length with
   | false=>rw[hb] at h; cases h
   | true =>
    rw[hb] at h
    cases h
    have hle:off % sz+n<=x.length:=lQ hb
    refine⟨by simp; omega,fun j hj=>?_⟩
    have hpos:0<sz:=oM
    have e1:(off+j) / sz=off / sz:=by
     have h1:=Nat.div_add_mod off sz
     have h2:off+j=sz * (off / sz)+(off % sz+j):=oM
     rw[h2,Nat.mul_add_div hpos,Nat.div_eq_of_lt (show off % sz+j<sz by omega),Nat.add_zero]
    have e2:(off+j) % sz=off % sz+j:=by
     have h1:=Nat.div_add_mod off sz
     have h2:off+j=sz * (off / sz)+(off % sz+j):=oM
     rw[h2,Nat.mul_add_mod,Nat.mod_eq_of_lt (show off % sz+j<sz by omega)]
    unfold read1
    rw[e1,e2,hx]
    rw[List.getElem?_take_of_lt hj,List.getElem?_drop]
open Go.RowKit
section
variable {K:Cfg} {P:Program} {n:Nat} {rd:Option Nat} {ds:List Nat} {ts:Zw} {h:H} {Q R:X->List Nat->Zw->H->Prop} {a b c:Code} {id:Nat}
theorem Zy.Z9i (F:Fits K P) (Hh:Hearts K P) {f:FuncId} {fn:Func} {body:Code} {args:List W} {R:V->H->Prop} (hc:K.clones.contains f=false) (hs:K.sorted.lookup f=none) (hf:K.funcs.get f=some fn) (hb:fn.body=some body) (hn:Nat.ble args.length fn.ntmps=true)
  (g:Goes K P fn.ntmps none body [] (U2 0 args .nil) h fun x ds ts h1=>∃ v h',leave K fn (some (.at x ds ts h1))=some (.val v h')/\R v h'):∃ v h',Zy K P f args h v h'/\R v h':=by
 obtain⟨x,ds',ts',h1,g1,v,h',g2,r⟩:=g
 exact⟨v,h',Zy.body F Hh hc hs hf hb hn g1 g2,r⟩
end
theorem Bh {K:Cfg} {E:Task->Option Out} {ts:Zw} {h:H} (f:FuncId) (a b:Array Operand):J4 K E ts h (.makeFunc (.func f) a b)=Gf h (Gm f (O9 K ts a.toList) (O9 K ts b.toList)):=rfl
theorem Zlp {K:Cfg} {E:Task->Option Out} {ts:Zw} {h:H} (t:TypeId):J4 K E ts h (.makeMap t none)=Lp h:=rfl
theorem Zvj {K:Cfg} {E:Task->Option Out} {ts:Zw} {h:H} (t:TypeId) (x:Operand) (lo hi:Option Operand):J4 K E ts h (.slice t x lo hi none)=Gf h (Ni K h (K.types.get t) (Zz K ts x) (N9 K ts lo) (N9 K ts hi)):=rfl
theorem Zq2 {K:Cfg} {E:Task->Option Out} {ts:Zw} {h:H} (t:TypeId) (x:Operand) (lo hi:Option Operand) (m:Operand):J4 K E ts h (.slice t x lo hi (some m))=Gf h (Zh1 K h (K.types.get t) (Zz K ts x) (N9 K ts lo) (N9 K ts hi) (N9 K ts (some m))):=rfl
theorem Yv {K:Cfg} {E:Task->Option Out} {all rest:List Oper} {n:Nat} {ts ts':Zw} {h h':H} {o:Oper} {r:Option (Zw × H)} (e:Zcq K E all n ts h o=some (ts',h')) (g:Nc K E all n rest ts' h'=r):Nc K E all n (o :: rest) ts h=r:=by
 rw[Zb0,e]
 exact g
theorem Yu {K:Cfg} {E:Task->Option Out} {all:List Oper} {n:Nat} {ts:Zw} {h:H}:Nc K E all n [] ts h=some (ts,h):=rfl
theorem Zci {a b:Nat} (h:a<b):Nat.blt a b=true:=Gb h
theorem Ze1 {a b:Nat} (h:a<=b):Nat.ble a b=true:=Nat.ble_eq_true_of_le h
theorem Z5l {a b:Nat} (h:a=b):Nat.beq a b=true:=by subst h; exact Nat.beq_refl a
theorem Zt0 {a b:Nat} (h:a≠b):Nat.beq a b=false:=by
 cases hx:Nat.beq a b with
 | false=>rfl
 | true=>exact absurd (bQ hx) h
theorem Z80 {a b:Nat} (h:b<=a):Nat.blt a b=false:=by
 cases hx:Nat.blt a b with
 | false=>rfl
 | true=>rw[Nat.blt_eq] at hx; omega
theorem Zu5 {z:Int} (h : -9223372036854775808<=z/\z<9223372036854775808):Jb .i64 z=.int .i64 z:=wrap64 h.1 h.2
theorem Zdq {z:Int} (h:0<=z/\z<4294967296):Jb .u32 z=.int .u32 z:=by
 unfold Jb IntKind.wrap
 congr 1
 show (z % 4294967296)=z
 omega
theorem Zin {z:Int} (h:0<=z/\z<65536):Jb .u16 z=.int .u16 z:=by
 unfold Jb IntKind.wrap
 congr 1
 show (z % 65536)=z
 omega
theorem Zf7 {z:Int} (h:0<=z/\z<256):Jb .u8 z=.int .u8 z:=by
 unfold Jb IntKind.wrap
 congr 1
 show (z % 256)=z
 omega
theorem Yav {p:Prop} [Decidable p] (h:p):decide p=true:=decide_eq_true h
theorem Yau {p:Prop} [Decidable p] (h:¬p):decide p=false:=decide_eq_false h
theorem O7 {a b:Int} (h:a=b):(a == b)=true:=by simpa using h
theorem U7 {a b:Int} (h:a≠b):(a == b)=false:=by simpa using h
theorem Zhp {a b:Int} (h:a≠b):(a != b)=true:=by simpa using h
theorem Zzi {a b:Int} (h:a=b):(a != b)=false:=by simpa using h
theorem Zjw {f:Nat->Nat->Nat} {a b:Nat} (ha:a<256) (hb:b<256) (hf:f a b<256):Bc .u8 f (a:Int) (b:Int)=.int .u8 (f a b:Nat):=by
 unfold Bc
 have e1:((a:Int) % 2 ^ IntKind.u8.bits).toNat=a:=by
  show ((a:Int) % 256).toNat=a
  omega
 have e2:((b:Int) % 2 ^ IntKind.u8.bits).toNat=b:=by
  show ((b:Int) % 256).toNat=b
  omega
 rw[e1,e2]
 exact Zf7 oM
theorem Sa {k:IntKind} {a b:Nat} (hb:0<b):T9 k (a:Int) (b:Int)=some (.int k ((a % b:Nat):Int)):=by
 unfold T9
 have:((b:Int) == 0)=false:=by simp; omega
 rw[this]
 rfl
theorem Nj {a b:Nat} (hb:0<b) (ha:a<9223372036854775808):R6 .i64 (a:Int) (b:Int)=some (.int .i64 ((a / b:Nat):Int)):=by
 unfold R6
 have:((b:Int) == 0)=false:=by simp; omega
 rw[this,cond_false]
 have e:(a:Int).tdiv b=((a / b:Nat):Int):=rfl
 have h1:a / b<=a:=Nat.div_le_self _ _
 rw[e,Zu5]
 generalize a / b=q at h1
 omega
theorem Z4s {k:IntKind} {a n:Nat} (h:0<(OfNat.ofNat n:Nat)):T9 k (a:Int) (no_index (OfNat.ofNat n:Int))=some (.int k ((a % (OfNat.ofNat n:Nat):Nat):Int)):=Sa (b:=n) h
theorem Z4q {a n:Nat} (h:0<(OfNat.ofNat n:Nat)/\a<9223372036854775808):R6 .i64 (a:Int) (no_index (OfNat.ofNat n:Int))=some (.int .i64 ((a / (OfNat.ofNat n:Nat):Nat):Int)):=Nj (b:=n) h.1 h.2
theorem Zwd {k:IntKind} {z:Int} (h:0<=z):U9 (some (.int k z))=some z.toNat:=by
 obtain⟨m,rfl⟩:=Int.eq_ofNat_of_zero_le h
 rfl
theorem Z2e {E:Task->Option Out} {f g:FuncId} {args us:List W} {h k:H} {v:V} {h':H} (e:g≠f):E1 E f args h v h' (.call g us k)=E (.call g us k):=by
 simp [E1,e]
theorem Z0h {n d:Nat} {ts:Zw} {h:H} {v:V} (hd:d<n):X7 n ts (some d) (some (v,h))=some (ts.set d v,h):=Zv d v (Zci hd)
theorem Z4p {n d:Nat} {ts:Zw} {v:V} (hd:d<n):Rt n ts (some d) v=some (ts.set d v):=Zwu d v (Zci hd)
theorem Zvb:Zd2 (.pointer none)=some (.w (.c .pnil)):=rfl
theorem Zvc:Zd2 (.slice none 0 0)=some (.w (.c .snil)):=rfl
theorem Zva:Zd2 (.map none)=some (.w (.c .mnil)):=rfl
theorem Zqy:Zd2 .nilFunc=some (.w (.c .nilFn)):=rfl
theorem Zx4 (s:ByteArray):Zd2 (.string s)=some (.w (.c (.str s.data.toList))):=rfl
theorem Zx (h:H) (n:Nat) (o:O):(h.put n o).get n=some o:=by rw[H.get_put,if_pos rfl]
theorem Zd {h:H} {n m:Nat} {o:O} (e:m≠n):(h.put n o).get m=h.get m:=by rw[H.get_put,if_neg e]
theorem Dy (h:H) (o:O):(h.new o).get h.next=some o:=by rw[H.Zg,if_pos rfl]
theorem Yi {h:H} {m:Nat} {o:O} (e:m≠h.next):(h.new o).get m=h.get m:=by rw[H.Zg,if_neg e]
theorem Ob {h:H} {m:Nat} {o:O} (e:m<=h.next/\h.next<=m):(h.new o).get m=some o:=by rw[show m=h.next by omega,Dy]
theorem Dq {h:H} {n m:Nat} (e:m≠n):(h.del n).get m=h.get m:=by rw[H.Dx,if_neg e]
attribute [go_sem] Zb0 Zke Zou Zot De Zdy Tree.Zam List.getElem?_cons_succ List.getElem?_cons_zero J9 Zx9 Zqz Zve Zyb Zn9 Zx8 Zvl Zja Zx6 Zya Z2m Zvf Zge Zlq Zjb Zi9 Zvg Zoa Zq0 Zjc Zn8 Z2t Zq3 Zq4 Zvn Z2v Z2u Zyl Zpl Zpk Zpn Zpm Zx7 Zvh evalW Zz O9 Yb Zow Zrc Zx3 Zu9 asW asC Zo binop Zt1 Z2w Zqe Gf Lf Rs Z7r Zks Zei Go.Ev.load Zat Go.Ev.store putRow Be Zo2 Zwf Zwe Bu Xh Zhw Z0h Zr1 Nv Mg List.map_nil List.nil_append List.append_nil cond_true cond_false H.Zb H.Zc if_true Dt Qt Fp Bd Zt4 Zt5 List.length_cons List.length_nil Yr Yj nbeq10 Z8y Z8x Z8w Z8v Bool.not_true Bool.not_false
attribute [go_sem] Zx Zd Dy Yi Ob Dq H.Yp Zu5 Zdq Zin Zf7 Zwd Zci Ze1 Z5l Zt0 Z80 Nat.beq_refl Gl
attribute [go_sem] D5 Zmn Jt finish Jo O0
attribute [go_sem] Int.toNat_natCast Zvb Zvc Zva Zqy Zx4 Option.toList_some Option.toList_none Z6b Zy2 eqC isB Zz0 Z2e Nat.zero_add Nat.mul_one cW gW List.getElem?_nil
attribute [go_sem] Bh Zlp Zvj Zq2 Gm ptrs Lp
attribute [go_sem] Z4s Z4q Yav Yau O7 U7 Zhp Zzi
attribute [go_sem] Bool.and_true Bool.true_and Bool.and_false Bool.false_and Bool.and_self Bool.or_true Bool.true_or Bool.or_false Bool.false_or List.getElem?_cons_zero
attribute [go_sem] Z8 Dj partOf Rz Z6c List.set_cons_zero List.set_cons_succ List.take_succ_cons List.drop_succ_cons List.take_zero List.drop_zero List.take_nil List.drop_nil List.cons_append List.singleton_append Z9
attribute [go_sem] piece part0 part1 part2 Z7s Z7t part3 part4 part5 part6 Ug Z7q
section
variable {K:Cfg} {P:Program} {n:Nat} {rd:Option Nat} {ds:List Nat} {ts:Zw} {h:H} {Q:X->List Nat->Zw->H->Prop} {q a b:Code} {id:Nat}
theorem Goes.Zl {o:Operand} {v:Bool} (hc:Zz K ts o=some (.bool v)) (g:Goes K P n rd (bif v then a else b) ds ts h Q):Goes K P n rd (.cond o a b) ds ts h Q:=by
 cases v with
 | true=>exact Goes.Z88 hc g
 | false=>exact Goes.Z87 hc g
end
theorem lens:(∀ (h:H) (o:O),(h.new o).next=h.next+1)/\(∀ (h:H) (n:Nat) (o:O),(h.put n o).next=h.next)/\(∀ a b:List C,(a++b).length=a.length+b.length)/\(∀ (n:Nat) (x:C),(List.replicate n x).length=n)/\(∀ (x:C) (l:List C),(x :: l).length=l.length+1)/\([]:List C).length=0/\(∀ (n:Nat) (l:List C),(l.take n).length=min n l.length)/\(∀ (l:List C) (i:Nat) (c:C),(l.set i c).length=l.length)/\(∀ (l:List Nat) (i c:Nat),(l.set i c).length=l.length) :=
 ⟨H.Zc,H.Zb,fun _ _=>List.length_append,fun _ _=>List.length_replicate,fun _ _=>List.length_cons,rfl,fun _ _=>List.length_take,fun _ _ _=>List.length_set,fun _ _ _=>List.length_set⟩
theorem dZ {p:Prop} (h:p:=by first|omega|(simp only[lens]<;>omega)|decide):p:=h
attribute [go_sem] Z4i Zwk Zz4 Z4k Zrx Z4h Zz9 Zmu Zz3 Z4j Z7o Zz5 Zjk Zpj Zmv Zmt Zz6 Zry Zwl Zmw Zrw Zz7
attribute [go_sem] Zoq Zcp Zka Z6v Z9d Zq6 Zq7 Zl7 Zj9 Zq8 Te Z4p Zwt Dh looks Z5y Op.operands Call.operands kd Zrp Xu stable Zdd Zib waits Zrg Region.binds
theorem drG:(∀ (α β:Type) (f:α->Option β) (a:α) (l:List α),(a :: l).filterMap f=match f a with|none=>l.filterMap f|some b=>b :: l.filterMap f)/\(∀ (α β:Type) (f:α->Option β),List.filterMap f []=[])/\(∀ (α:Type) (l:List α),l++[]=l)/\(∀ (α:Type) (l:List α),[]++l=l)/\(∀ (α:Type) (p:α->Bool) (a:α) (l:List α),(a :: l).all p=(p a&&l.all p))/\(∀ (α:Type) (p:α->Bool),List.all [] p=true)/\(∀ (α:Type) (p:α->Bool) (a:α) (l:List α),(a :: l).any p=(p a || l.any p))/\(∀ (α:Type) (p:α->Bool),List.any [] p=false)/\(∀ (α β:Type) (f:α->β) (a:α) (l:List α),(a :: l).map f=f a :: l.map f)/\(∀ (α:Type) (a b:Array α),(a++b).toList=a.toList++b.toList)/\(∀ a b:Nat,a<=b->Nat.ble a b=true)/\(∀ a:Nat,a<=a)/\∀ a b:Nat,a<=a+b :=
 ⟨fun _ _ _ _ _=>List.filterMap_cons,fun _ _ _=>rfl,fun _ l=>List.append_nil l,fun _ _=>rfl,fun _ _ _ _=>rfl,fun _ _=>rfl,fun _ _ _ _=>rfl,fun _ _=>rfl,fun _ _ _ _ _=>rfl,fun _ _ _=>Array.toList_append,fun _ _ h=>Em h,Nat.le_refl,fun a b=>Nat.le_add_right a b⟩
open Go.RowKit
section
variable {K:Cfg} {P:Program} {n:Nat} {rd:Option Nat} {ds:List Nat} {ts:Zw} {h:H} {Q:X->List Nat->Zw->H->Prop} {id:Nat}
def Z52 (Q:X->List Nat->Zw->H->Prop) (ds:List Nat) (ts:Zw) (h:H):Option Code->Prop
 | none=>Q .normal ds ts h
 | some (.exit id)=>Q (.exit id) ds ts h
 | some .ret=>Q .ret ds ts h
 | _=>False
theorem Zmx {pend:Option Code} (q:Z52 Q ds ts h pend):∃ x,pending ds ts h pend=some (.at x ds ts h)/\Q x ds ts h:=by
 cases pend with
 | none=>exact⟨.normal,rfl,q⟩
 | some c=>cases c<;>first|exact⟨_,rfl,q⟩|exact q.elim
theorem Goes.range (F:Fits K P) (Hh:Hearts K P) {g:Operand} {ps:Array Tmp} {assign body:Code} {f:FuncId} {first caps:List (Option (Nat × Nat))} (hg:Zz K ts g=some (.fn f first caps)) {v:V} {h3:H} (c:Zy K P f (Mg [.c (.yield (h.next+1))] first caps) ((h.new .defers).new (.loop ts n ps.toList assign body .ready none h.next)) v h3)
  {ts':Zw} {n':Nat} {ps':List Tmp} {us1' bd':Code} {st:LoopState} {pend:Option Code} {d:Nat} (hl:h3.get (h.next+1)=some (.loop ts' n' ps' us1' bd' st pend d)) (hst:st≠.busy)
  (q:Z52 Q (h.next :: ds) ts (h3.put (h.next+1) (.loop ts' n' ps' us1' bd' .exhausted pend d)) pend):Goes K P n none (.rangeFunc g ps assign body) ds ts h Q:=by
 obtain⟨x,e,q'⟩:=Zmx q
 have S:=Zp Za c
 have T:=Lv F Hh S (Zah F S)
 refine⟨x,_,_,_,T.code (.rangeFunc g ps assign body) n none ds ts h x _ _ _ ?_,q'⟩
 show Zfx _ ps.toList assign body n none ds ts h (Zz K ts g)=_
 rw[hg]
 show endLoop (h.next :: ds) ts (h.new .defers).next (E1 E0 f _ _ v h3 (.call f (Mg [.c (.yield (h.new .defers).next)] first caps) ((h.new .defers).new (.loop ts n ps.toList assign body .ready none h.next))))=_
 rw[show (h.new .defers).next=h.next+1 from rfl,Z4]
 show (match h3.get (h.next+1) with
  | some (.loop ts' n' ps ag bd st pend d)=>(match st with
   | .busy=>none
   | _=>pending (h.next :: ds) ts (h3.put (h.next+1) (.loop ts' n' ps ag bd .exhausted pend d)) pend)
  | _=>none)=_
 rw[hl]
 cases st with
 | busy=>exact absurd rfl hst
 | _=>exact e
theorem exE {α β:Type} {A R S:α->β->Prop} (x:∃ a b,A a b/\R a b) (q:∀ a b,R a b->S a b):∃ a b,A a b/\S a b:=by
 obtain⟨a,b,h1,h2⟩:=x
 exact⟨a,b,h1,q a b h2⟩
theorem Goes.Zm5 (F:Fits K P) (Hh:Hearts K P) {g:Operand} {ps:Array Tmp} {assign body:Code} {f:FuncId} {first caps:List (Option (Nat × Nat))} (hg:Zz K ts g=some (.fn f first caps))
  (e:∃ v h3,Zy K P f (Mg [.c (.yield (h.next+1))] first caps) ((h.new .defers).new (.loop ts n ps.toList assign body .ready none h.next)) v h3 /\
   ∃ st pend ts' n' ps' us1' bd' d,h3.get (h.next+1)=some (.loop ts' n' ps' us1' bd' st pend d)/\st≠.busy/\Z52 Q (h.next :: ds) ts (h3.put (h.next+1) (.loop ts' n' ps' us1' bd' .exhausted pend d)) pend):Goes K P n none (.rangeFunc g ps assign body) ds ts h Q:=by
 obtain⟨v,h3,c,st,pend,ts',n',ps',us1',bd',d,hl,hst,q⟩:=e
 exact Goes.range F Hh hg c hl hst q
open Classical in
noncomputable def EA (E:Task->Option Out) (f:FuncId) (args:List W) (v:H->V) (g:H->H):Task->Option Out:=fun t=>match t with
 | .call f' args' h=>if f'=f/\args'=args then some (.val (v h) (g h)) else E t
 | t=>E t
theorem Jj {E:Task->Option Out} (S:Sound K P E) {f:FuncId} {args:List W} {v:H->V} {g:H->H} (c:∀ h,Zy K P f args h (v h) (g h)):Sound K P (EA E f args v g):=by
 refine⟨fun f' us k u k' he=>?_,fun c n rd ds ts h x ds' ts' h' he=>?_,fun t o he=>?_⟩
 ·simp only[EA] at he
  split at he
  ·rename_i e
   obtain⟨rfl,rfl⟩:=e
   cases he
   exact c k
  ·exact S.call f' us k u k' he
 ·exact S.code c n rd ds ts h x ds' ts' h' he
 ·cases t with
  | code c n rd ds ts h=>exact S.shape _ o he
  | call f' us k =>
   simp only[EA] at he
   split at he
   ·cases he
    exact .inl ⟨_,_,_,_,_,rfl,rfl⟩
   ·exact S.shape _ o he
theorem Z2f (E:Task->Option Out) (f:FuncId) (args:List W) (v:H->V) (g:H->H) (h:H):EA E f args v g (.call f args h)=some (.val (v h) (g h)):=by simp [EA]
theorem Z2g {E:Task->Option Out} {f f':FuncId} {args us:List W} {v:H->V} {g:H->H} {h:H} (e:f'≠f):EA E f args v g (.call f' us h)=E (.call f' us h):=by
 simp [EA,e]
attribute [go_sem] Z2f Z2g
open Classical in
noncomputable def E1c (E:Task->Option Out) (c:Code) (n:Nat) (rd:Option Nat) (ds:List Nat) (ts:Zw) (h:H) (x:X) (ds':List Nat) (ts':Zw) (h':H):Task->Option Out:=fun t=>if t=.code c n rd ds ts h then some (.at x ds' ts' h') else E t
theorem Bt {E:Task->Option Out} (S:Sound K P E) {c:Code} {x:X} {ds':List Nat} {ts':Zw} {h':H} (k:Yf K P n rd c ds ts h x ds' ts' h'):Sound K P (E1c E c n rd ds ts h x ds' ts' h'):=by
 refine⟨fun g us k' u k2 he=>?_,fun c2 n2 rd2 ds2 ts2 h2 x2 ds3 ts3 h3 he=>?_,fun t o he=>?_⟩
 ·simp only[E1c] at he
  split at he
  ·rename_i e
   cases e
  ·exact S.call g us k' u k2 he
 ·simp only[E1c] at he
  split at he
  ·rename_i e
   cases e
   cases he
   exact k
  ·exact S.code c2 n2 rd2 ds2 ts2 h2 x2 ds3 ts3 h3 he
 ·simp only[E1c] at he
  split at he
  ·rename_i e
   cases e
   cases he
   exact .inr ⟨_,_,_,_,_,_,_,_,_,_,rfl,rfl⟩
  ·exact S.shape t o he
theorem Eh (E:Task->Option Out) (c:Code) (n:Nat) (rd:Option Nat) (ds:List Nat) (ts:Zw) (h:H) (x:X) (ds':List Nat) (ts':Zw) (h':H):E1c E c n rd ds ts h x ds' ts' h' (.code c n rd ds ts h)=some (.at x ds' ts' h'):=by simp [E1c]
theorem Wl {E:Task->Option Out} {c:Code} {x:X} {ds':List Nat} {ts':Zw} {h':H} {c2:Code} {n2:Nat} {rd2:Option Nat} {ds2:List Nat} {ts2:Zw} {h2:H} (e:Task.code c2 n2 rd2 ds2 ts2 h2≠Task.code c n rd ds ts h):E1c E c n rd ds ts h x ds' ts' h' (.code c2 n2 rd2 ds2 ts2 h2)=E (.code c2 n2 rd2 ds2 ts2 h2):=by
 unfold E1c
 rw[if_neg e]
theorem Lu {E:Task->Option Out} {l:Nat} {args:List W} {lts:Zw} {ps:List Tmp} {assign body:Code} {st0:LoopState} {pend0:Option Code} {d:Nat} {ts1:Zw} (hl:h.get l=some (.loop lts n ps assign body st0 pend0 d)) (hz:Uk n ps args lts=some ts1)
  {ds1:List Nat} {ts2:Zw} {h1:H} (ha:E (.code assign n (some l) [] ts1 h)=some (.at .normal ds1 ts2 h1))
  {lts':Zw} {n':Nat} {ps':List Tmp} {us1' bd':Code} {pend:Option Code} {d':Nat} (hl1:h1.get l=some (.loop lts' n' ps' us1' bd' .ready pend d'))
  {x:X} {ds2:List Nat} {ts3:Zw} {h2:H} (hb:E (.code body n (some l) ds1 ts2 (h1.put l (.loop lts' n' ps' us1' bd' .busy pend d')))=some (.at x ds2 ts3 h2))
  {lts2:Zw} {n2:Nat} {ps2:List Tmp} {as2 bd2:Code} {p2:Option Code} {d2:Nat} (hl2:h2.get l=some (.loop lts2 n2 ps2 as2 bd2 .busy p2 d2)) :
  Gc E l (some args) h (h.get l)=some (.val (.w (.c (.bool (Zo4 x)))) (h2.put l (.loop lts2 n2 ps2 as2 bd2 (Zm9 x) (Zmm x) d2))):=by
 rw[hl]
 simp only[Gc,hz,ha,Tw,hl1,hb,endRound,hl2]
end
open Go.RowKit
section
variable {K:Cfg} {P:Program} {f:FuncId} {args:List W} {h h1 h2:H} {v:V}
abbrev Kn1:=List W->H->Option (V × H)
def Z4l:Option (V × H)->Option Out
 | some (v,h)=>some (.val v h)
 | none=>none
theorem Zwm (v:V) (h:H):Z4l (some (v,h))=some (.val v h):=rfl
theorem Zuu {r:Option (V × H)} {o:Out} (e:Z4l r=some o):∃ v h,r=some (v,h)/\o=.val v h:=by
 match r with
 | some (v,h)=>cases e; exact⟨v,h,rfl,rfl⟩
 | none=>cases e
noncomputable def EX (E:Task->Option Out) (f:FuncId) (x:Kn1):Task->Option Out:=fun t=>match t with
 | .call g args h=>bif Nat.beq g f then Z4l (x args h) else E (.call g args h)
 | t=>E t
theorem Zxx {E:Task->Option Out} (S:Sound K P E) {f:FuncId} {x:Kn1} (c:∀ args h v h',x args h=some (v,h')->Zy K P f args h v h'):Sound K P (EX E f x):=by
 refine⟨fun g us k u k' he=>?_,fun c n rd ds ts h x ds' ts' h' he=>?_,fun t o he=>?_⟩
 ·simp only[EX] at he
  cases hb:Nat.beq g f with
  | true =>
   rw[hb] at he
   obtain⟨v,h,e,e2⟩:=Zuu he
   cases e2
   obtain rfl:=bQ hb
   exact c _ _ _ _ e
  | false=>rw[hb] at he; exact S.call g us k u k' he
 ·exact S.code c n rd ds ts h x ds' ts' h' he
 ·cases t with
  | code c n rd ds ts h=>exact S.shape _ o he
  | call g us k =>
   simp only[EX] at he
   cases hb:Nat.beq g f with
   | true =>
    rw[hb] at he
    obtain⟨v,h,e,e2⟩:=Zuu he
    exact .inl ⟨_,_,_,_,_,rfl,e2⟩
   | false=>rw[hb] at he; exact S.shape _ o he
theorem EY {E:Task->Option Out} (S:Sound K P E) {f:FuncId} {x:Kn1} (c:∀ {args:List W} {h h':H} {v:V},x args h=some (v,h')->Zy K P f args h v h'):Sound K P (EX E f x):=Zxx S fun _ _ _ _ e=>c e
theorem Z2i (E:Task->Option Out) (f:FuncId) (x:Kn1) (args:List W) (h:H):EX E f x (.call f args h)=Z4l (x args h):=by
 simp only[EX,Nat.beq_refl,cond_true]
theorem Z2j {E:Task->Option Out} {f g:FuncId} {x:Kn1} {args:List W} {h:H} (e:g≠f):EX E f x (.call g args h)=E (.call g args h):=by
 have:Nat.beq g f=false:=Zt0 e
 simp only[EX,this,cond_false]
def Yt {α:Type} (c:Bool) (k:Option α):Option α:=bif c then k else none
theorem Zvm {α:Type} (k:Option α):Yt true k=k:=rfl
theorem Zq {α:Type} {c:Bool} {k:Option α} {r:α}:Yt c k=some r ↔ c=true/\k=some r:=by
 cases c
 ·refine⟨fun e=>?_,fun e=>?_⟩
  ·cases e
  ·cases e.1
 ·exact⟨fun e=>⟨rfl,e⟩,fun e=>e.2⟩
theorem Zj {α β:Type} {o:Option α} {g:α->Option β} {r:β} (e:o.bind g=some r):∃ a,o=some a/\g a=some r:=by
 cases o with
 | none=>cases e
 | some a=>exact⟨a,rfl,e⟩
def Zqv (b:Nat) (o:O):Prop:=o.simple=true/\o.ro=false/\∀ τ:Nat->Nat,(∀ m,m<b->τ m=m)->o.ren τ=o
def Zgd (b:Nat) (v:V):Prop:=∀ τ:Nat->Nat,(∀ m,m<b->τ m=m)->v.ren τ=v
def Ru (h h2:H):Prop:=h2.next=h.next/\∀ m o,h2.get m=some o->m<h.next/\(h.get m=some o\/Zqv h.next o)
theorem Ru.refl (tidy:∀ n o,h.get n=some o->n<h.next):Ru h h:=⟨rfl,fun m o e=>⟨tidy m o e,.inl e⟩⟩
theorem Ru.put {n:Nat} {o:O} (nr:Ru h h2) (hn:n<h.next) (lo:Zqv h.next o):Ru h (h2.put n o):=by
 refine⟨by rw[H.Zb]; exact nr.1,fun m o' e=>?_⟩
 rw[H.get_put] at e
 split at e
 ·rename_i hm
  subst hm
  cases e
  exact⟨hn,.inr lo⟩
 ·exact nr.2 m o' e
theorem Zgd.flat {b:Nat} (e:v.flat=true):Zgd b v:=fun τ _=>V.Je e τ
theorem Zy.settle (c:Zy K P f args h v h1) (nr:Ru h h2) (hv:Zgd h.next v) (hk:∀ m,m<h.next->h1.get m=h2.get m):Zy K P f args h v h2:=by
 obtain⟨hn,nr⟩:=nr
 have hτ:∀ m,m<h.next->(if m<h.next then m else h1.next+m)=m:=fun m hm=>if_pos hm
 refine c.Zdh (τ:=fun m=>if m<h.next then m else h1.next+m) hτ (fun m hm=>?_) (Nat.le_of_eq hn.symm) (hv _ hτ) (fun m o ho=>?_) (fun m m' o o' ho ho' hne=>?_)
 ·show h1.next<=if m<h.next then m else h1.next+m
  rw[if_neg oM]
  omega
 ·obtain⟨lm,a|⟨s,r,q⟩⟩:=nr m o ho
  ·exact .inl ⟨a,by rw[hk m lm]; exact ho⟩
  ·refine .inr ⟨s,r,?_⟩
   show h1.get (if m<h.next then m else h1.next+m)=some (o.ren _)
   rw[hτ m lm,q _ hτ,hk m lm]
   exact ho
 ·have e1:=(nr m o ho).1
  have e2:=(nr m' o' ho').1
  show (if m<h.next then m else _)≠(if m'<h.next then m' else _)
  rw[if_pos e1,if_pos e2]
  exact hne
abbrev Ut:=List (Int × List C)
def Y5 (l:Ut):List (W × W):=l.map fun p=>(.c (.int .i64 p.1),.g p.2)
def Ym (b:Int):Ut->Option (List C)
 | []=>none
 | (k,x) :: l=>bif b == k then some x else Ym b l
def Ol (b:Int) (x:List C):Ut->Ut
 | []=>[(b,x)]
 | (k,y) :: l=>bif b == k then (b,x) :: l else (k,y) :: Ol b x l
def Dw (b:Int):Ut->Ut
 | []=>[]
 | (k,y) :: l=>bif b == k then l else (k,y) :: Dw b l
def gOf:Option (List C)->Option W
 | some x=>some (.g x)
 | none=>none
theorem Zg9 (kt:TypeId) (b:Int):∀ l:Ut,Zcw K kt (.c (.int .i64 b)) (Y5 l)=some (gOf (Ym b l))
 | []=>rfl
 | (k,x) :: l=>by
  show (match (if IntKind.i64=IntKind.i64 then some (b == k) else none) with
   | none=>none
   | some true=>some (some (W.g x))
   | some false=>Zcw K kt (.c (.int .i64 b)) (Y5 l))=_
  rw[if_pos rfl]
  show _=some (gOf (bif b == k then some x else Ym b l))
  cases b == k with
  | true=>rfl
  | false=>exact Zg9 kt b l
theorem Zkw (kt:TypeId) (b:Int) (x:List C):∀ l:Ut,Zh8 K kt (.c (.int .i64 b)) (.g x) (Y5 l)=some (Y5 (Ol b x l))
 | []=>rfl
 | (k,y) :: l=>by
  show (match (if IntKind.i64=IntKind.i64 then some (b == k) else none) with
   | none=>none
   | some true=>some ((W.c (.int .i64 b),W.g x) :: Y5 l)
   | some false=>match Zh8 K kt (.c (.int .i64 b)) (.g x) (Y5 l) with
    | none=>none
    | some l'=>some ((W.c (.int .i64 k),W.g y) :: l'))=_
  rw[if_pos rfl]
  show _=some (Y5 (bif b == k then (b,x) :: l else (k,y) :: Ol b x l))
  cases b == k with
  | true=>rfl
  | false=>simp only; rw[Zkw kt b x l]; rfl
theorem Zj6 (kt:TypeId) (b:Int):∀ l:Ut,Zje K kt (.c (.int .i64 b)) (Y5 l)=some (Y5 (Dw b l))
 | []=>rfl
 | (k,y) :: l=>by
  show (match (if IntKind.i64=IntKind.i64 then some (b == k) else none) with
   | none=>none
   | some true=>some (Y5 l)
   | some false=>match Zje K kt (.c (.int .i64 b)) (Y5 l) with
    | none=>none
    | some l'=>some ((W.c (.int .i64 k),W.g y) :: l'))=_
  rw[if_pos rfl]
  show _=some (Y5 (bif b == k then l else (k,y) :: Dw b l))
  cases b == k with
  | true=>rfl
  | false=>simp only; rw[Zj6 kt b l]; rfl
theorem Qf (l:Ut):(Y5 l).length=l.length:=List.length_map ..
theorem Eo (b k:Int) (x:List C):∀ l:Ut,Ym b (Ol k x l)=if b=k then some x else Ym b l
 | []=>by
  show (bif b == k then some x else none)=_
  by_cases e:b=k
  ·rw[if_pos e,O7 e]; rfl
  ·rw[if_neg e,U7 e]; rfl
 | (j,y) :: l=>by
  show Ym b (bif k == j then (k,x) :: l else (j,y) :: Ol k x l)=if b=k then some x else (bif b == j then some y else Ym b l)
  by_cases e:k=j
  ·subst e
   rw[O7 rfl,cond_true]
   show (bif b == k then some x else Ym b l)=_
   by_cases e:b=k
   ·rw[if_pos e,O7 e]; rfl
   ·rw[if_neg e,U7 e]; rfl
  ·rw[U7 e,cond_false]
   show (bif b == j then some y else Ym b (Ol k x l))=_
   rw[Eo b k x l]
   by_cases e2:b=j
   ·rw[O7 e2,cond_true,cond_true,if_neg oM]
   ·rw[U7 e2,cond_false,cond_false]
def Ou (l:Ut):Bool:=l.all fun p=>p.2.all C.flat
theorem Og {b:Int} {x:List C} (hx:x.all C.flat=true):∀ {l:Ut},Ou l=true->Ou (Ol b x l)=true
 | [],_=>by show (x.all C.flat&&true)=true; rw[hx]; rfl
 | (k,y) :: l,h=>by
  have h':(y.all C.flat&&Ou l)=true:=h
  rw[aQ] at h'
  show Ou (bif b == k then (b,x) :: l else (k,y) :: Ol b x l)=true
  cases b == k with
  | true=>show (x.all C.flat&&Ou l)=true; rw[hx,h'.2]; rfl
  | false=>show (y.all C.flat&&Ou (Ol b x l))=true; rw[h'.1,Og hx h'.2]; rfl
theorem Tj {b:Int}:∀ {l:Ut},Ou l=true->Ou (Dw b l)=true
 | [],_=>rfl
 | (k,y) :: l,h=>by
  have h':(y.all C.flat&&Ou l)=true:=h
  rw[aQ] at h'
  show Ou (bif b == k then l else (k,y) :: Dw b l)=true
  cases b == k with
  | true=>exact h'.2
  | false=>show (y.all C.flat&&Ou (Dw b l))=true; rw[h'.1,Tj h'.2]; rfl
theorem D7 {b:Nat} {l:Ut} (h:Ou l=true):Zqv b (.map (Y5 l)):=by
 refine⟨rfl,rfl,fun τ _=>?_⟩
 show O.map ((Y5 l).map (Z7x τ))=_
 congr 1
 rw[Y5,List.map_map]
 refine List.map_congr_left fun p hp=>?_
 show (W.c (.int .i64 p.1),(W.g p.2).ren τ)=_
 rw[W.Je (x:=.g p.2) (List.all_eq_true.1 h p hp)]
theorem Zup {b sz:Nat} {els:List (List C)} (h:∀ τ:Nat->Nat,(∀ m,m<b->τ m=m)->els.map (List.map (C.ren τ))=els):Zqv b (.row sz els false) :=
 ⟨rfl,rfl,fun τ hτ=>by show O.row sz (els.map (List.map (C.ren τ))) false=_; rw[h τ hτ]⟩
def Qd:List (W × W)->Option Ut
 | []=>some []
 | (.c (.int .i64 k),.g x) :: l=>match Qd l with
  | some r=>some ((k,x) :: r)
  | none=>none
 | _=>none
theorem Ze6:∀ {l:List (W × W)} {r:Ut},Qd l=some r->l=Y5 r
 | [],r,e=>by cases e; rfl
 | (a,x) :: l,r,e=>by
  unfold Qd at e
  split at e
  ·rename_i heq; cases heq
  ·rename_i k x' l' heq
   cases heq
   split at e
   ·rename_i r' hr
    cases e
    rw[Ze6 hr]
    rfl
   ·cases e
  ·cases e
theorem Qe:∀ l:Ut,Qd (Y5 l)=some l
 | []=>rfl
 | (k,x) :: l=>by
  show (match Qd (Y5 l) with
   | some r=>some ((k,x) :: r)
   | none=>none)=_
  rw[Qe l]
noncomputable def getM (h:H) (n:Nat):Option Ut:=match h.get n with
 | some (.map es)=>Qd es
 | _=>none
theorem getM_some {n:Nat} {l:Ut} (e:getM h n=some l):h.get n=some (.map (Y5 l)):=by
 unfold getM at e
 split at e
 ·rename_i es he
  rw[he,Ze6 e]
 ·cases e
theorem Zdg {sz:Nat} {x:List C} (h:x.length<=sz/\sz<=x.length/\0<sz):Zk sz [x] 0 sz=some x:=by
 obtain rfl:sz=x.length:=oM
 exact Qy h.2.2
theorem Zp1 {sz n:Nat} {x:List C} (h:x.length<=sz/\sz<=x.length/\0<n/\n<=sz):Zk sz [x] 0 n=some (x.take n):=by
 obtain rfl:sz=x.length:=oM
 have e:Nat.beq n 0=false:=Zt0 oM
 simp only[Zk,Nat.zero_div,Nat.zero_mod,List.getElem?_cons_zero,List.drop_zero,Nat.zero_add,e,cond_false]
 rw[Nat.ble_eq_true_of_le h.2.2.2]
 rfl
theorem Zr8 {sz off n:Nat} {x:List C} (h:off+n<=sz/\x.length<=sz/\sz<=x.length/\0<n):Zk sz [x] off n=some ((x.drop off).take n):=by
 obtain rfl:sz=x.length:=oM
 have e:Nat.beq n 0=false:=Zt0 oM
 have e1:off / x.length=0:=Nat.div_eq_of_lt oM
 have e2:off % x.length=off:=Nat.mod_eq_of_lt oM
 simp only[Zk,e1,e2,List.getElem?_cons_zero,e,cond_false]
 rw[Nat.ble_eq_true_of_le oM]
 rfl
theorem Q8 {sz:Nat} {l l':List C} (h:l'.length<=sz/\sz<=l'.length/\l.length<=sz/\sz<=l.length/\0<sz):Z5 sz [l] 0 l'=some [l']:=by
 obtain rfl:sz=l'.length:=oM
 exact Xv h.2.2.2.2 oM
theorem Zox {z x:List C} {n:Nat} (h:x.length<=n/\n<=x.length/\n<=z.length):Dj z 0 n (.g x)=some (x++z.drop n):=by
 unfold Dj
 rw[Zt5,Z5l oM,Ze1 oM,Bool.and_self,cond_true,List.take_zero,List.nil_append,Nat.zero_add]
theorem Zv2 {x z:List C} {c:C} {n:Nat} (h:x.length<=n/\n<=x.length/\z.length<=1/\1<=z.length):Dj (x++z) n 1 (.c c)=some (x++[c]):=by
 unfold Dj
 have e1:(x++z).take n=x:=by rw[show n=x.length by omega,List.take_left']; rfl
 have e2:(x++z).drop (n+1)=[]:=List.drop_of_length_le (by rw[List.length_append]; omega)
 rw[Zt4,e1,e2,Ze1 (by rw[List.length_append]; omega)]
 show some (x++[c]++[])=_
 rw[List.append_nil]
end
attribute [go_sem] Q8 Zdg
attribute [go_sem] Z2i Z2j Zwm Zvm Zg9 Zkw Zj6 Qf Qe getM Option.bind_some gOf
attribute [go_sem] Tz Fq Eg entriesOf found Rs Oy Yy
open Go.RowKit
section
variable {α:Type}
theorem Tree.Zik (x y:Option α):∀ (f k:Nat),k<f->Tree.upd x (Tree.path y f k) k=Tree.path x f k
 | 0,_,h=>by omega
 | f+1,k,h=>by
  rw[Tree.Zek,Tree.Zek]
  split
  ·rename_i hk
   rw[Tree.Ld,if_pos hk]
  ·rename_i hk
   split
   ·rename_i ho
    rw[Tree.Ld,if_neg hk,if_pos ho,Tree.Zik x y f (k / 2) oM]
   ·rename_i ho
    rw[Tree.Ld,if_neg hk,if_neg ho,Tree.Zik x y f (k / 2 - 1) oM]
theorem Tree.Zne (x y:Option α):∀ (t:Tree α) (k:Nat),Tree.upd x (Tree.upd y t k) k=Tree.upd x t k
 | .nil,k=>by rw[Tree.Znd,Tree.Znd,Tree.Zik x y (k+1) k oM]
 | .node v l r,k=>by
  rw[Tree.Ld,Tree.Ld]
  split
  ·rename_i hk
   rw[Tree.Ld,if_pos hk]
  ·rename_i hk
   split
   ·rename_i ho
    rw[Tree.Ld,if_neg hk,if_pos ho,Tree.Zne x y l (k / 2)]
   ·rename_i ho
    rw[Tree.Ld,if_neg hk,if_neg ho,Tree.Zne x y r (k / 2 - 1)]
end
theorem H.Zf5 (h:H) (n:Nat) (a b:O):(h.put n a).put n b=h.put n b:=by
 show (⟨Tree.upd (some b) (Tree.upd (some a) h.m n) n,h.next⟩:H)=⟨Tree.upd (some b) h.m n,h.next⟩
 rw[Tree.Zne]
section
variable {K:Cfg} {P:Program} {Y:Kn} {f:FuncId} {args:List W} {v:V}
end
section
variable {K:Cfg} {P:Program} {n:Nat} {rd:Option Nat} {b:Code} {ds ds1:List Nat} {ts ts1:Zw} {h h1:H} {Q:X->List Nat->Zw->H->Prop} {id:Nat}
theorem Yf.Zvq {id':Nat} (a1:Yf K P n rd b ds ts h (.exit id') ds1 ts1 h1) (hne:¬id'=id):Yf K P n rd (.block id b) ds ts h (.exit id') ds1 ts1 h1:=by
 intro D ρ w a r m hr hd ht hm hrd
 refine wpIn_block (wpIn_mono (a1 D ρ w a r m hr hd ht hm hrd) ?_)
 rintro e a1 w1 ⟨rfl,rest⟩
 show Exit.inBlock id _ (.exit id') a1 w1
 simp only[Exit.inBlock,if_neg hne]
 exact⟨rfl,rest⟩
theorem Zmg (g:Goes K P n rd b ds ts h fun x ds ts h=>match x with
  | .normal=>Q .normal ds ts h
  | .ret=>Q .ret ds ts h
  | .exit id'=>if id'=id then Q .normal ds ts h else Q (.exit id') ds ts h):Goes K P n rd (.block id b) ds ts h Q:=by
 obtain⟨x,ds',ts',h',g1,g2⟩:=g
 cases x with
 | normal=>exact⟨_,_,_,_,Yf.block g1,g2⟩
 | ret=>exact⟨_,_,_,_,Yf.Zjx g1,g2⟩
 | exit id' =>
  simp only at g2
  split at g2
  ·rename_i e
   subst e
   exact⟨_,_,_,_,Yf.Zgq g1,g2⟩
  ·rename_i e
   exact⟨_,_,_,_,Yf.Zvq g1 e,g2⟩
end
open Go.RowKit
section
variable {K:Cfg} {P:Program} {n:Nat} {rd:Option Nat}
theorem Ow {c:Code} {ds:List Nat} {ts:Zw} {h:H} {Q:X->List Nat->Zw->H->Prop} (g:∀ h',h'=h->Goes K P n rd c ds ts h' Q):Goes K P n rd c ds ts h Q:=g h rfl
open Classical in
noncomputable def EC (E:Task->Option Out) (c:Code) (n:Nat) (rd:Option Nat) (Pr:Zw->H->Prop) (F:Zw->H->X × List Nat × Zw × H):Task->Option Out:=fun t=>match t with
 | .code c' n' rd' ds ts h=>if c'=c/\n'=n/\rd'=rd/\ds=[]/\Pr ts h then some (.at (F ts h).1 (F ts h).2.1 (F ts h).2.2.1 (F ts h).2.2.2) else E t
 | t=>E t
theorem Zn1 {E:Task->Option Out} (S:Sound K P E) {c:Code} {Pr:Zw->H->Prop} {F:Zw->H->X × List Nat × Zw × H} (k:∀ ts h,Pr ts h->Yf K P n rd c [] ts h (F ts h).1 (F ts h).2.1 (F ts h).2.2.1 (F ts h).2.2.2):Sound K P (EC E c n rd Pr F):=by
 refine⟨fun f us k0 u k' he=>?_,fun c2 n2 rd2 ds2 ts2 h2 x2 ds3 ts3 h3 he=>?_,fun t o he=>?_⟩
 ·exact S.call f us k0 u k' he
 ·simp only[EC] at he
  split at he
  ·rename_i q
   obtain⟨rfl,rfl,rfl,rfl,p⟩:=q
   cases he
   exact k ts2 h2 p
  ·exact S.code c2 n2 rd2 ds2 ts2 h2 x2 ds3 ts3 h3 he
 ·cases t with
  | call f us k=>exact S.shape _ o he
  | code c2 n2 rd2 ds2 ts2 h2 =>
   simp only[EC] at he
   split at he
   ·cases he
    exact .inr ⟨_,_,_,_,_,_,_,_,_,_,rfl,rfl⟩
   ·exact S.shape _ o he
theorem Ztu (E:Task->Option Out) (c:Code) (n:Nat) (rd:Option Nat) {Pr:Zw->H->Prop} (F:Zw->H->X × List Nat × Zw × H) {ts:Zw} {h:H} (p:Pr ts h):EC E c n rd Pr F (.code c n rd [] ts h)=some (.at (F ts h).1 (F ts h).2.1 (F ts h).2.2.1 (F ts h).2.2.2):=by
 simp [EC,p]
theorem Z2h {E:Task->Option Out} {c c2:Code} {Pr:Zw->H->Prop} {F:Zw->H->X × List Nat × Zw × H} (ne:c2≠c) (n2:Nat) (rd2:Option Nat) (ds2:List Nat) (ts2:Zw) (h2:H):EC E c n rd Pr F (.code c2 n2 rd2 ds2 ts2 h2)=E (.code c2 n2 rd2 ds2 ts2 h2):=by
 simp [EC,ne]
open Classical in
noncomputable def Vb {Q:Zw->H->X->List Nat->Zw->H->Prop} {Pr:Zw->H->Prop} {c:Code} (g:∀ ts h,Pr ts h->Goes K P n rd c [] ts h (Q ts h)) (ts:Zw) (h:H):X × List Nat × Zw × H :=
 if p:Pr ts h then ((g ts h p).ex.choose,(g ts h p).ex.choose_spec.choose,(g ts h p).ex.choose_spec.choose_spec.choose,(g ts h p).ex.choose_spec.choose_spec.choose_spec.choose) else (.normal,[],ts,h)
theorem Zc6 {Q:Zw->H->X->List Nat->Zw->H->Prop} {Pr:Zw->H->Prop} {c:Code} (g:∀ ts h,Pr ts h->Goes K P n rd c [] ts h (Q ts h)) {ts:Zw} {h:H} (p:Pr ts h) :
  Yf K P n rd c [] ts h (Vb g ts h).1 (Vb g ts h).2.1 (Vb g ts h).2.2.1 (Vb g ts h).2.2.2/\Q ts h (Vb g ts h).1 (Vb g ts h).2.1 (Vb g ts h).2.2.1 (Vb g ts h).2.2.2:=by
 have e:Vb g ts h=((g ts h p).ex.choose,(g ts h p).ex.choose_spec.choose,(g ts h p).ex.choose_spec.choose_spec.choose,(g ts h p).ex.choose_spec.choose_spec.choose_spec.choose):=by unfold Vb; rw[dif_pos p]
 rw[e]
 exact (g ts h p).ex.choose_spec.choose_spec.choose_spec.choose_spec
theorem rounds {l:Nat} {assign body:Code} (ne:assign≠body) {PA PB:Zw->H->Prop} {QA:Zw->Zw->Prop} {QB:Zw->H->H->Prop}
  (hA:∀ ts h,PA ts h->Goes K P n (some l) assign [] ts h fun x ds' ts' h'=>x=.normal/\ds'=[]/\h'=h/\QA ts ts')
  (hB:∀ ts h,PB ts h->Goes K P n (some l) body [] ts h fun x _ _ h'=>x=.normal/\QB ts h h') :
  ∃ E,Sound K P E/\∀ (us:List W) (h:H) (lts ts1:Zw) (ps:List Tmp) (d:Nat),h.get l=some (.loop lts n ps assign body .ready none d)->Uk n ps us lts=some ts1->PA ts1 h ->
   (∀ ts',QA ts1 ts'->PB ts' (h.put l (.loop lts n ps assign body .busy none d))) ->
   ∃ ts' h',QA ts1 ts'/\QB ts' (h.put l (.loop lts n ps assign body .busy none d)) h' /\
    (h'.get l=some (.loop lts n ps assign body .busy none d)->Gc E l (some us) h (some (.loop lts n ps assign body .ready none d))=some (.val (.w (.c (.bool true))) (h'.put l (.loop lts n ps assign body .ready none d)))):=by
 have SA:=Zn1 (E:=E0) (K:=K) (P:=P) Za fun ts h p=>(Zc6 hA p).1
 have SB:=Zn1 SA fun ts h p=>(Zc6 hB p).1
 refine⟨_,SB,fun us h lts ts1 ps d hl hz pa pb=>?_⟩
 obtain⟨kA,a1,a2,a3,a4⟩:=Zc6 hA pa
 have pB:=pb _ a4
 obtain⟨kB,b1,b2⟩:=Zc6 hB pB
 refine⟨_,_,a4,b2,fun hl2=>?_⟩
 have r:=Lu (E:=EC (EC E0 assign n (some l) PA (Vb hA)) body n (some l) PB (Vb hB)) hl hz (ds1:=[]) (ts2:=(Vb hA ts1 h).2.2.1) (h1:=h) (by
  rw[Z2h ne,Ztu _ _ _ _ _ pa,a1,a2,a3]) hl (x:=.normal) (by
  rw[Ztu _ _ _ _ _ pB,b1]) hl2
 rw[hl] at r
 exact r
end
open Go.RowKit
section
variable {K:Cfg} {P:Program} {Y:Kn} {f:FuncId} {args:List W} {v:V}
theorem Zlw {G:Nat} (hg:K.globs=Tree.set .nil G 0) {W:World} {cs:Array Value} {t:TypeId} {fr:Nat × Nat} (hb:W.heap[G]? = some (.cells cs t fr)) (hcs:cs.toList=steps16.map (Value.int .u32))
  {h':H} (c:Zy K P f args Xc (.w (.c (.bool true))) h') {vals:List Value} (ha:Yn (Jq (Sr G)) args vals) :
  Calls P f vals.toArray W fun e W'=>e=.returned (.bool true)/\Below W.heap.size W W':=by
 have hd:Dom (Sr G) Xc.next:=fun n hn=>by
  have:n≠0:=by have:1<=n:=hn; omega
  simp [Sr,this]
 have:=c.2 (Sr G) W vals none 0 (Zen hg hb hcs) hd ha
 refine (callsIn_wide.1 (show CallsIn Fence.wide 0 P f vals.toArray W _ from this)).mono ?_
 rintro e W' ⟨ρ',val,rfl,aft,hv⟩
 have e:val=.bool true:=hv
 subst e
 refine⟨rfl,aft.fr.os,aft.fr.tape,aft.fr.output,aft.fr.size,fun k hk=>aft.fr.keep k hk ?_⟩
 rintro⟨m,o,l,ho,hro,_⟩
 obtain⟨rfl,rfl⟩:=Fb ho
 cases hro
end
noncomputable def Z7z (sz:Nat):Option Out->Option (List (List C))
 | some (.val (.w (.c (.slice n 0 len sz'))) h)=>match h.get n with
  | some (.row sz'' els false)=>bif Nat.beq sz sz'&&Nat.beq sz sz''&&Nat.ble 1 n&&Nat.blt n h.next&&Nat.beq els.length len&&els.all (fun l=>l.all C.flat) then some els else none
  | _=>none
 | _=>none
theorem Zw0 {o:Option Out} {sz:Nat} {els:List (List C)} (e:Z7z sz o=some els):∃ h n,o=some (.val (.w (.c (.slice n 0 els.length sz))) h)/\1<=n/\n<h.next/\h.get n=some (.row sz els false)/\els.all (fun l=>l.all C.flat)=true:=by
 unfold Z7z at e
 split at e
 ·rename_i n len sz' h
  split at e
  ·rename_i sz'' els' ho
   cases hb:(Nat.beq sz sz'&&Nat.beq sz sz''&&Nat.ble 1 n&&Nat.blt n h.next&&Nat.beq els'.length len&&els'.all (fun l=>l.all C.flat)) with
   | false=>rw[hb] at e; cases e
   | true =>
    rw[hb] at e
    cases e
    simp only[aQ] at hb
    obtain⟨⟨⟨⟨⟨b0,b1⟩,b2⟩,b3⟩,b4⟩,b5⟩:=hb
    obtain rfl:=bQ b0
    obtain rfl:=bQ b1
    obtain rfl:=bQ b4
    exact⟨h,n,rfl,lQ b2,by simpa [Nat.blt_eq] using b3,ho,b5⟩
  ·cases e
 ·cases e
section
variable {K:Cfg} {P:Program} {Y:Kn} {f:FuncId} {args:List W}
theorem Zy.Z29 (F:Fits K P) (Hh:Hearts K P) (hY:Zfk K P Y) {G:Nat} (hg:K.globs=Tree.set .nil G 0) {n sz:Nat} {els:List (List C)} (e:Z7z sz (evX K Y n (.call f args ⟨.nil,1⟩))=some els) (ha:args.all W.flat=true) (h:H) :
  Zy K P f args h (.w (.c (.slice h.next 0 els.length sz))) (h.new (.row sz els false)):=by
 obtain⟨h1,k,e1,k1,k2,ho,hfl⟩:=Zw0 e
 have c0:Zy K P f args ⟨.nil,1⟩ (.w (.c (.slice k 0 els.length sz))) h1:=(Nl F Hh hY n).call f args _ _ _ e1
 refine Zy.pos c0.1 (Zhe hg) fun hpos=>?_
 have none0:∀ n o,¬ (⟨.nil,1⟩:H).get n=some o:=fun n o hn=>by cases hn
 have L:Lies K (fun n=>if n<1 then n else h.next+(n - 1)) ⟨.nil,1⟩ h:=by
  refine⟨fun n hn=>if_neg (by have:1<=n:=hn; omega),fun n hn=>?_,fun n o ho=>(none0 n o ho).elim,fun n n' o o' ho=>(none0 n o ho).elim,fun g n hgn=>?_⟩
  ·show (if n<1 then n else _)<h.next
   have:n<1:=hn
   rw[if_pos this]
   omega
  ·rw[(Tp hg hgn).2]; rfl
 have fl:∀ σ:Nat->Nat,(O.row sz els false).ren σ=.row sz els false:=fun σ=>by
  show O.row sz (els.map (List.map (C.ren σ))) false=_
  rw[Ua (fun l hl=>Ua (fun a ha=>C.Je ha _) hl) hfl]
 have sk:(if k<1 then k else h.next+(k - 1))=h.next+(k - 1):=if_neg oM
 have c1:=c0.frame L (h':=(⟨h.m,h.next+(h1.next - 1)⟩:H).put (h.next+(k - 1)) (.row sz els false)) ⟨rfl,fun m o ho'=>by
  rw[H.get_put] at ho'
  split at ho'
  ·rename_i hm
   cases ho'
   exact .inr ⟨k,_,ho,rfl,rfl,by show (if k<1 then k else h.next+(k - 1))=m; rw[sk,hm],(fl _).symm⟩
  ·exact .inl ⟨ho',fun n o' ho2=>(none0 n o' ho2).elim⟩⟩
 rw[Ua (fun a ha=>W.Je ha _) ha] at c1
 have ev:(V.w (.c (.slice k 0 els.length sz))).ren (fun n=>if n<1 then n else h.next+(n - 1))=.w (.c (.slice (h.next+(k - 1)) 0 els.length sz)):=by
  show V.w (.c (.slice (if k<1 then k else h.next+(k - 1)) 0 els.length sz))=_
  rw[sk]
 rw[ev] at c1
 exact c1.row1 (Nat.le_add_right _ _) (Zx ..) hfl (by rw[H.Zb]; show h.next+(k - 1)<h.next+(h1.next - 1); omega) (fun m hm=>by rw[Zd oM]; rfl)
end
noncomputable def Zsa:Option Out->Option (Int × List (List C))
 | some (.val (.tup [.c (.int .i64 p),.c s,.c (.int .i64 0)]) h)=>match s with
  | .snil=>some (p,[])
  | .slice n 0 len 1=>match h.get n with
   | some (.row 1 els false)=>bif Nat.ble 1 n&&Nat.blt n h.next&&Nat.ble 1 els.length&&Nat.beq els.length len&&els.all (fun l=>l.all C.flat) then some (p,els) else none
   | _=>none
  | _=>none
 | _=>none
theorem Zw1 {o:Option Out} {p:Int} {els:List (List C)} (e:Zsa o=some (p,els)):∃ h s,o=some (.val (.tup [.c (.int .i64 p),.c s,.c (.int .i64 0)]) h)/\((els=[]/\s=.snil)\/∃ n,1<=n/\n<h.next/\s=.slice n 0 els.length 1/\h.get n=some (.row 1 els false)/\els.all (fun l=>l.all C.flat)=true/\1<=els.length):=by
 unfold Zsa at e
 split at e
 ·rename_i p' s h
  split at e
  ·cases e; exact⟨h,.snil,rfl,.inl ⟨rfl,rfl⟩⟩
  ·rename_i n len
   split at e
   ·rename_i els' ho
    cases hb:(Nat.ble 1 n&&Nat.blt n h.next&&Nat.ble 1 els'.length&&Nat.beq els'.length len&&els'.all (fun l=>l.all C.flat)) with
    | false=>rw[hb] at e; cases e
    | true =>
     rw[hb] at e
     cases e
     simp only[aQ] at hb
     obtain⟨⟨⟨⟨b1,b2⟩,b3⟩,b4⟩,b5⟩:=hb
     obtain rfl:=bQ b4
     exact⟨h,_,rfl,.inr ⟨n,lQ b1,by simpa [Nat.blt_eq] using b2,rfl,ho,b5,lQ b3⟩⟩
   ·cases e
  ·cases e
 ·cases e
section
variable {K:Cfg} {P:Program} {Y:Kn} {f:FuncId} {args:List W}
theorem Zy.Zt8 (F:Fits K P) (Hh:Hearts K P) (hY:Zfk K P Y) {G:Nat} (hg:K.globs=Tree.set .nil G 0) {n:Nat} {p:Int} {els:List (List C)} (e:Zsa (evX K Y n (.call f args ⟨.nil,1⟩))=some (p,els)) (ha:args.all W.flat=true) (h:H) (hpos:0<h.next) :
  ∃ h' s,Zy K P f args h (.tup [.c (.int .i64 p),.c s,.c (.int .i64 0)]) h'/\h.next<=h'.next/\(∀ m,m<h.next->h'.get m=h.get m)/\((els=[]/\s=.snil)\/∃ q,h.next<=q/\q<h'.next/\s=.slice q 0 els.length 1/\h'.get q=some (.row 1 els false)/\1<=els.length):=by
 obtain⟨h1,s,e1,hs⟩:=Zw1 e
 have c0:Zy K P f args ⟨.nil,1⟩ (.tup [.c (.int .i64 p),.c s,.c (.int .i64 0)]) h1:=(Nl F Hh hY n).call f args _ _ _ e1
 have none0:∀ n o,¬ (⟨.nil,1⟩:H).get n=some o:=fun n o hn=>by cases hn
 have L:Lies K (fun n=>if n<1 then n else h.next+(n - 1)) ⟨.nil,1⟩ h:=by
  refine⟨fun n hn=>if_neg (by have:1<=n:=hn; omega),fun n hn=>?_,fun n o ho=>(none0 n o ho).elim,fun n n' o o' ho=>(none0 n o ho).elim,fun g n hgn=>?_⟩
  ·show (if n<1 then n else _)<h.next
   have:n<1:=hn
   rw[if_pos this]
   omega
  ·rw[(Tp hg hgn).2]; rfl
 rcases hs with ⟨rfl,rfl⟩|⟨k,k1,k2,rfl,ho,hfl,el⟩
 ·have c1:=c0.frame L (h':=⟨h.m,h.next+(h1.next - 1)⟩) ⟨rfl,fun m o ho=>.inl ⟨ho,fun n o' ho'=>(none0 n o' ho').elim⟩⟩
  rw[Ua (fun a ha=>W.Je ha _) ha] at c1
  exact⟨⟨h.m,h.next+(h1.next - 1)⟩,.snil,c1,Nat.le_add_right _ _,fun m _=>rfl,.inl ⟨rfl,rfl⟩⟩
 ·have fl:∀ σ:Nat->Nat,(O.row 1 els false).ren σ=.row 1 els false:=fun σ=>by
   show O.row 1 (els.map (List.map (C.ren σ))) false=_
   rw[Ua (fun l hl=>Ua (fun a ha=>C.Je ha _) hl) hfl]
  have sk:(if k<1 then k else h.next+(k - 1))=h.next+(k - 1):=if_neg oM
  have c1:=c0.frame L (h':=(⟨h.m,h.next+(h1.next - 1)⟩:H).put (h.next+(k - 1)) (.row 1 els false)) ⟨rfl,fun m o ho'=>by
   rw[H.get_put] at ho'
   split at ho'
   ·rename_i hm
    cases ho'
    exact .inr ⟨k,_,ho,rfl,rfl,by show (if k<1 then k else h.next+(k - 1))=m; rw[sk,hm],(fl _).symm⟩
   ·exact .inl ⟨ho',fun n o' ho2=>(none0 n o' ho2).elim⟩⟩
  rw[Ua (fun a ha=>W.Je ha _) ha] at c1
  refine⟨(⟨h.m,h.next+(h1.next - 1)⟩:H).put (h.next+(k - 1)) (.row 1 els false),.slice (h.next+(k - 1)) 0 els.length 1,?_,Nat.le_add_right h.next _,fun m hm=>by rw[Zd oM]; rfl,.inr ⟨h.next+(k - 1),Nat.le_add_right _ _,by rw[H.Zb]; show h.next+(k - 1)<h.next+(h1.next - 1); omega,rfl,Zx ..,el⟩⟩
  have ev:(V.tup [.c (.int .i64 p),.c (.slice k 0 els.length 1),.c (.int .i64 0)]).ren (fun n=>if n<1 then n else h.next+(n - 1))=.tup [.c (.int .i64 p),.c (.slice (h.next+(k - 1)) 0 els.length 1),.c (.int .i64 0)]:=by
   show V.tup [.c (.int .i64 p),.c (.slice (if k<1 then k else h.next+(k - 1)) 0 els.length 1),.c (.int .i64 0)]=_
   rw[sk]
  rw[ev] at c1
  exact c1
end
theorem Zhr (a x:Int):∀ l:List Int,x∈Zbe a l ↔ x=a\/x∈l
 | []=>by simp [Zbe]
 | b :: l=>by
  unfold Zbe
  split
  ·simp
  ·rw[List.mem_cons,Zhr a x l,List.mem_cons]
   constructor
   ·rintro (h|h|h)
    ·exact .inr (.inl h)
    ·exact .inl h
    ·exact .inr (.inr h)
   ·rintro (h|h|h)
    ·exact .inr (.inl h)
    ·exact .inl h
    ·exact .inr (.inr h)
theorem Zo3 (a:Int):∀ l:List Int,(Zbe a l).length=l.length+1
 | []=>rfl
 | b :: l=>by
  unfold Zbe
  split
  ·rfl
  ·rw[List.length_cons,Zo3 a l]; rfl
def Ml:Ut->List Int
 | []=>[]
 | (k,_) :: l=>Zbe k (Ml l)
theorem X8:∀ {l:Ut},(∀ p∈l,Dz p.1=true)->Od (Y5 l)=some (Ml l)
 | [],_=>rfl
 | (k,x) :: l,h=>by
  show (bif Dz k then (match Od (Y5 l) with
   | none=>none
   | some r=>some (Zbe k r)) else none)=_
  rw[h (k,x) (by simp),X8 (fun p hp=>h p (by simp [hp]))]
  rfl
theorem Zaq:∀ l:Ut,(Ml l).length=l.length
 | []=>rfl
 | (k,_) :: l=>by rw[Ml,Zo3,Zaq l]; rfl
theorem Zef {b:Int} {x:List C}:∀ {l:Ut},Ym b l=some x->(b,x)∈l
 | (k,y) :: l,e=>by
  have e':(bif b == k then some y else Ym b l)=some x:=e
  cases hb:b == k with
  | true =>
   rw[hb] at e'
   cases e'
   obtain rfl:b=k:=by simpa using hb
   simp
  | false=>rw[hb] at e'; exact List.mem_cons_of_mem _ (Zef e')
theorem Zkp {k:Int}:∀ {l:Ut},k∈Ml l ↔ (Ym k l).isSome=true
 | []=>by simp [Ml,Ym]
 | (j,y) :: l=>by
  rw[Ml,Zhr,Zkp (l:=l)]
  show _ ↔ (bif k == j then some y else Ym k l).isSome=true
  by_cases e:k=j
  ·rw[O7 e]; simp [e]
  ·rw[U7 e]; simp [e]
open Go.RowKit
section
variable {K:Cfg} {P:Program} {f:FuncId} {args:List W} {h h':H}
theorem Zlv {ρ:Ren} {W:World} (hr:Rep K ρ h W) (hd:Dom ρ h.next) (hro:∀ n o,h.get n=some o->o.ro=true) (c:Zy K P f args h (.w (.c (.bool true))) h') {vals:List Value} (ha:Yn (Jq ρ) args vals) :
  Calls P f vals.toArray W fun e W'=>e=.returned (.bool true)/\Below W.heap.size W W':=by
 have:=c.2 ρ W vals none 0 hr hd ha
 refine (callsIn_wide.1 (show CallsIn Fence.wide 0 P f vals.toArray W _ from this)).mono ?_
 rintro e W' ⟨ρ',val,rfl,aft,hv⟩
 have e:val=.bool true:=hv
 subst e
 refine⟨rfl,aft.fr.os,aft.fr.tape,aft.fr.output,aft.fr.size,fun k hk=>aft.fr.keep k hk ?_⟩
 rintro⟨m,o,l,ho,hr0,_⟩
 rw[hro m o ho] at hr0
 cases hr0
end
open Go.ChangeShapes Go.WideShapes
inductive Kt where
 | int (k:IntKind)
 | bool
 | str
def Kt.has:Kt->Value->Prop
 | .int k,v=>∃ n,v=.int k n/\(Lit.int k n).wf=true
 | .bool,v=>∃ b,v=.bool b
 | .str,v=>∃ s:ByteArray,v=.string s
section
variable {P:Program} {cs:List Value}
end
open Go.ChangeMaps (setBlock)
theorem Z4b (w:World) (o:Obj):(w.alloc o).heap[w.heap.size]? = some o:=by
 show (w.heap.push o)[w.heap.size]? = _
 simp
theorem Z4c (w:World) (o:Obj) {r:Nat} (h:r<w.heap.size):(w.alloc o).heap[r]? = w.heap[r]?:=by
 show (w.heap.push o)[r]? = _
 rw[Array.getElem?_push_lt h,Array.getElem?_eq_getElem h]
structure MIt (w:World) (b r:Nat) (es left:List MapEntry):Prop where
 ex:∃ (A:Array MapEntry) (clock since c0:Nat) (seen:Array Nat),w.heap[b]? = some (.map A clock)/\A.toList=es/\w.heap[r]? = some (.mapIter (some b) since seen c0)/\(leftOf A seen).toList=left/\(∀ x∈es,x.born<since)/\since<=c0/\since<=clock
 nd:(es.map (·.born)).Nodup
theorem MIt.ne {w:World} {b r:Nat} {es left:List MapEntry} (h:MIt w b r es left):r≠b:=by
 obtain⟨A,clock,since,c0,seen,h1,_,h3,_⟩:=h.ex
 intro e
 rw[e,h1] at h3
 cases h3
theorem MIt.lt {w:World} {b r:Nat} {es left:List MapEntry} (h:MIt w b r es left):r<w.heap.size/\b<w.heap.size:=by
 obtain⟨A,clock,since,c0,seen,h1,_,h3,_⟩:=h.ex
 exact⟨(Array.getElem?_eq_some_iff.1 h3).1,(Array.getElem?_eq_some_iff.1 h1).1⟩
theorem MIt.kept {w w':World} {b r:Nat} {es left:List MapEntry} {row:Option Nat} (h:MIt w b r es left) (g:w.grownBy w' row) (hb:some b≠row) (hr:some r≠row):MIt w' b r es left:=by
 have l:=h.lt
 obtain⟨A,clock,since,c0,seen,h1,h2,h3,h4⟩:=h.ex
 exact⟨⟨A,clock,since,c0,seen,(g.block b l.2 hb).trans h1,h2,(g.block r l.1 hr).trans h3,h4⟩,h.nd⟩
theorem MIt.alloc {w:World} {b r:Nat} {es left:List MapEntry} (h:MIt w b r es left) (o:Obj):MIt (w.alloc o) b r es left:=h.kept (World.grownBy_alloc w o none) (by simp) (by simp)
theorem MIt.mem {w:World} {b r:Nat} {es left:List MapEntry} (h:MIt w b r es left) {e:MapEntry} (he:e∈left):e∈es:=by
 obtain⟨A,clock,since,c0,seen,h1,h2,h3,h4,h5⟩:=h.ex
 subst h2
 rw[<-h4] at he
 simp [leftOf] at he
 simpa using he.1
def Z7l (w:World) (b r:Nat):Nat:=match w.heap[b]?,w.heap[r]? with
 | some (.map es _),some (.mapIter _ _ seen _)=>(leftOf es seen).size
 | _,_=>0
theorem MIt.cnt {w:World} {b r:Nat} {es left:List MapEntry} (h:MIt w b r es left):Z7l w b r=left.length:=by
 obtain⟨A,clock,since,c0,seen,h1,h2,h3,h4,h5⟩:=h.ex
 unfold Z7l
 rw[h1,h3,<-h4]
 simp
theorem Zo8 {A:Array MapEntry} {seen:Array Nat} {e:MapEntry} (nd:(A.toList.map (·.born)).Nodup) (he:e∈(leftOf A seen).toList):∃ l1 l2,(leftOf A seen).toList=l1++e :: l2/\(leftOf A (seen.push e.born)).toList=l1++l2:=by
 have e1:(leftOf A seen).toList=A.toList.filter (fun x=>!seen.contains x.born):=by simp [leftOf]
 have e2:(leftOf A (seen.push e.born)).toList=(A.toList.filter (fun x=>!seen.contains x.born)).filter (fun x=>!(x.born == e.born)):=by
  rw[List.filter_filter]
  simp only[leftOf,Array.toList_filter]
  apply List.filter_congr
  intro x _
  simp only[Array.contains_push,Bool.not_or,Bool.and_comm]
 rw[e1] at he
 rw[e1,e2]
 have nd2:((A.toList.filter (fun x=>!seen.contains x.born)).map (·.born)).Nodup:=(List.filter_sublist.map _).nodup nd
 generalize A.toList.filter (fun x=>!seen.contains x.born)=l at he nd2 ⊢
 clear e1 e2
 induction l with
 | nil=>cases he
 | cons x l ih =>
  have hn:=List.nodup_cons.1 nd2
  by_cases q:x.born=e.born
  ·have hx:x=e:=by
    rcases List.mem_cons.1 he with w|w
    ·exact w.symm
    ·exact absurd (q ▸ List.mem_map.2 ⟨e,w,rfl⟩:x.born∈l.map (·.born)) hn.1
   subst hx
   refine⟨[],l,rfl,?_⟩
   rw[List.filter_cons,show (!(x.born == x.born))=false by simp]
   simp only[Bool.false_eq_true,if_false,List.nil_append]
   rw[List.filter_eq_self]
   intro y hy
   have:x.born≠y.born:=fun w=>hn.1 (List.mem_map.2 ⟨y,hy,w.symm⟩)
   simpa using fun w=>this w.symm
  ·have he':e∈l:=by
    rcases List.mem_cons.1 he with w|w
    ·exact absurd (by rw[w]) q
    ·exact w
   obtain⟨l1,l2,h1,h2⟩:=ih he' hn.2
   refine⟨x :: l1,l2,by rw[h1]; rfl,?_⟩
   rw[List.filter_cons,show (!(x.born == e.born))=true by simpa using q]
   simp only[if_true,List.cons_append,h2]
section
variable {F:Fence} {n:Nat} {P:Program} (w:World) {ops:Array Oper} {rest:List Oper} {o:Oper} {a:Act} {Q:Exit->Act->World->Prop}
theorem Zb9 (hg:o.guard=none) (m:Operand) (t:TypeId) (hop:o.op=Op.range t m) (k e:TypeId) (ht:P.underlying t=some (.map k e)) (b:Nat) (A:Array MapEntry) (clock:Nat)
  (hm:a.eval m=.map (some b)) (hb:w.heap[b]? = some (.map A clock)) (hold:∀ x∈A.toList,x.born<clock) (nd:(A.toList.map (·.born)).Nodup)
  (hK:∀ w',MIt w' b w.heap.size A.toList A.toList->w.grownBy w' none->w'.heap.size=w.heap.size+1->wpListIn F n P ops Q rest (a.put o.dst (.pointer (some ⟨w.heap.size,0,none⟩))) w') :
  wpListIn F n P ops Q (o :: rest) a w:=by
 refine wpListIn_plain hg fun K' hK'=>?_
 have hrun:=run_range_map (P:=P) w t k e b A clock ht hb
 have hbl:b<w.heap.size:=(Array.getElem?_eq_some_iff.1 hb).1
 unfold Oper.wpIn
 refine⟨?_,?_⟩
 ·simp [Oper.about,hop]
 ·rw[Oper.semAt_plain F _ _ (by rw[hop]; intro c hc'; cases hc')]
  simp [execOp,hop,hm,hrun,Result.andThen]
  refine hK' _ _ (hK _ ⟨⟨A,clock,clock,clock,#[],(Z4c w (.mapIter (some b) clock #[] clock) hbl).trans hb,rfl,Z4b w (.mapIter (some b) clock #[] clock),by simp [leftOf],hold,Nat.le_refl _,Nat.le_refl _⟩,nd⟩ (World.grownBy_alloc w _ none) (by show (w.heap.push _).size=_; rw[Array.size_push]))
theorem Zdo (hg:o.guard=none) (it:Operand) (hop:o.op=Op.next it false) (b r:Nat) (es left:List MapEntry)
  (hit:a.eval it=.pointer (some ⟨r,0,none⟩)) (h:MIt w b r es left)
  (hDone:left=[]->wpListIn F n P ops Q rest (a.put o.dst (.tuple #[.bool false])) w)
  (hMore:∀ (e:MapEntry) (l1 l2:List MapEntry) (w':World),left=l1++e :: l2->MIt w' b r es (l1++l2)->w.grownBy w' (some r)->w'.heap.size=w.heap.size->(Instr.entry (.pointer (some ⟨r,0,none⟩))).run P w'=.ok (.tuple #[e.key,e.val]) w'->wpListIn F n P ops Q rest (a.put o.dst (.tuple #[.bool true,e.key,e.val])) w') :
  wpListIn F n P ops Q (o :: rest) a w:=by
 refine wpListIn_plain hg fun K' hK'=>?_
 unfold Oper.wpIn
 refine⟨by simp [Oper.about,hop],?_⟩
 rw[Oper.semAt_plain F _ _ (by rw[hop]; intro c hc'; cases hc')]
 have hne:=h.ne
 have hlt:=h.lt
 obtain⟨A,clock,since,c0,seen,h1,h2,h3,h4,h5,h6,h7⟩:=h.ex
 have nd:=h.nd
 subst h2
 rcases run_next_at (P:=P) w o.type r b since c0 seen A clock h3 h1 h5 h6 with ⟨h0,hrun⟩|⟨e,he,w1,hw1,hrun⟩
 ·simp [execOp,hop,hit,hrun,Result.andThen]
  refine hK' _ _ (hDone ?_)
  rw[<-h4]
  exact List.eq_nil_of_length_eq_zero (by rw[Array.length_toList]; exact h0)
 ·obtain⟨l1,l2,q1,q2⟩:=Zo8 nd he
  have a1:w1.heap=w.heap:=by rcases hw1 with rfl|rfl<;>rfl
  have hr1:r<w1.heap.size:=by rw[a1]; exact hlt.1
  have hs:(setBlock w1 r (.mapIter (some b) since (seen.push e.born) clock)).heap[r]? = some (.mapIter (some b) since (seen.push e.born) clock):=by
   simp [setBlock,Array.setIfInBounds,hr1]
  have hb:(setBlock w1 r (.mapIter (some b) since (seen.push e.born) clock)).heap[b]? = some (.map A clock):=by
   simp only[setBlock]
   rw[Array.getElem?_setIfInBounds_ne hne,a1]
   exact h1
  have heA:e∈A.toList:=by
   have:e∈(leftOf A seen).toList:=he
   simp [leftOf] at this
   simpa using this.1
  have hen:=run_entry_at (P:=P) _ r b since seen A clock e hs hb heA nd
  have hM:MIt (setBlock w1 r (.mapIter (some b) since (seen.push e.born) clock)) b r A.toList (l1++l2):=⟨⟨A,clock,since,clock,seen.push e.born,hb,rfl,hs,q2,h5,h7,h7⟩,nd⟩
  have hg1:w.grownBy (setBlock w1 r (.mapIter (some b) since (seen.push e.born) clock)) (some r):=by
   refine⟨?_,?_,?_,?_,fun i hi hne=>?_⟩
   ·rcases hw1 with rfl|rfl<;>rfl
   ·rcases hw1 with rfl|rfl<;>rfl
   ·rcases hw1 with rfl|rfl<;>rfl
   ·simp [setBlock,a1]
   ·simp only[setBlock]
    rw[Array.getElem?_setIfInBounds_ne (fun q=>hne (by rw[q])),a1]
  simp [execOp,hop,hit,hrun,Result.andThen]
  exact hK' _ _ (hMore e l1 l2 _ (h4.symm.trans q1) hM hg1 (by simp [setBlock,a1]) hen)
end
end Go.Ev
