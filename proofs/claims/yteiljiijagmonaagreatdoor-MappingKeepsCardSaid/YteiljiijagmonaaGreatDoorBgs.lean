/- revoke.Of, of a table with records of one number: their blocks, sorted. -/
import Derived.Test.YteiljiijagmonaaGreatDoorHeart
import Derived.Sort.OwnSortedInts
import Derived.Maps.AppendAt
import Derived.Maps.OwnIn
import Derived.Laws.Cover3
import Derived.Laws.Pointers
import Derived.OwnWalkIn
import Derived.TacticsInMore
import Derived.RegionIn
import Derived.LoopNIn
import Derived.LoopIn
import Derived.Test.YteiljiijagmonaaGreatDoorHcy
set_option maxRecDepth 100000
set_option maxHeartbeats 4000000
set_option linter.unusedSimpArgs false
set_option linter.unusedVariables false
set_option linter.unusedSectionVars false
namespace Go.Proofs.YteiljiijagmonaaGreatDoor
open Go.Ev Go.RowKit Go.Maps Go.Sort
noncomputable section
def Zid (e:MapEntry):Int:=match e.key with
 | .agg cs=>match cs.toList with
  | .int _ k :: _=>k
  | _=>0
 | _=>0
theorem Z9p:(Tryz.prog.info? 3).map (fun i=>(i.zero,i.size,i.bytes))=some (some (.int .i64 0),1,8):=kR
theorem Z9t {v:Value} {r:Nat} (h:∀ g,v.ownBlock=some g->g≠r):v.ownBlock=none\/v.ownBlock≠some r:=by
 cases hv:v.ownBlock with
 | none=>exact .inl rfl
 | some g=>exact .inr (fun q=>h g hv (by simpa using q))
theorem Z39 (n:Nat) (w:World) (tb off b:Nat) (ht:w.cell? ⟨tb,off,none⟩=some (.map (some b))) :
  CallsIn Fence.wide n Tryz.prog 171 #[.pointer (some ⟨tb,off,none⟩)] w fun e w'=>e=.returned (.bool true)/\w=w':=by
 have hq:=fun w=>run_neq_map_nil (P:=Tryz.prog) w 282 _ _ (some b) Tryz.underlying282
 refine callsIn_of_wp Tryz.func171 rfl trivial ?_
 simp only[Tryz.ntmps171,List.size_toArray,List.length_cons,List.length_nil,Nat.reduceAdd,Nat.reduceSub,Array.replicate_succ,Array.replicate_zero,List.push_toArray,List.append_toArray,List.nil_append,List.cons_append]
 gi_wp2
 go_ret
 exact⟨rfl,rfl⟩
theorem Z72 (n:Nat) (w:World) (tb off b:Nat) (q:Int) (A:Array MapEntry) (clock:Nat) (ht:w.cell? ⟨tb,off,none⟩=some (.map (some b))) (hb:w.heap[b]? = some (.map A clock)) (hold:∀ x∈A.toList,x.born<clock) (nd:(A.toList.map (·.born)).Nodup) (hA:A.size<=1000000)
  (hk:∀ x∈A.toList,∃ k:Int,x.key=.agg #[.int .i64 k,.int .u32 q]) :
  CallsIn Fence.wide n Tryz.prog 124 #[.pointer (some ⟨tb,off,none⟩),.int .u32 q] w fun e w'=>∃ (v:Value) (ss:List Int),e=.returned v/\ss.Perm (A.toList.map Zid)/\w'.ownsRow w.heap.size 3 1 v ss.length ((ss.mergeSort (fun x y=>decide (x<=y))).map (Value.int .i64))/\(v=.slice none 0 0 ↔ ss=[])/\Below w.heap.size w w':=by
 have hq:=fun w=>run_neq_map_nil (P:=Tryz.prog) w 282 _ _ (some b) Tryz.underlying282
 have hbl:b<w.heap.size:=(Array.getElem?_eq_some_iff.1 hb).1
 have e189:Tryz.lays189_ren.f 189=80:=kR
 have hsort:=fun (n g off cap:Nat) (ss:List Int) (W:World) (hH:Go.Sort.Holds (Value.int .i64) W g off ss.toArray) (hb:g<W.heap.size) (hs:ss.length<4611686018427387904)=>(callsIn_wide (n:=n)).2 (Any.slices_Sort_int Tryz.lays189 g off cap ss W hH hb hs)
 have hsort0:=fun (n:Nat) (p:Option Addr) (cap:Nat) (W:World)=>(callsIn_wide (n:=n)).2 (Any.slices_Sort_int_none Tryz.lays189 p cap W)
 simp only[e189] at hsort hsort0
 have hmade:=fun n=>Z39 n w tb off b ht
 refine callsIn_of_wp Tryz.func124 rfl trivial ?_
 simp only[Tryz.ntmps124,List.size_toArray,List.length_cons,List.length_nil,Nat.reduceAdd,Nat.reduceSub,Array.replicate_succ,Array.replicate_zero,List.push_toArray,List.append_toArray,List.nil_append,List.cons_append]
 gi_wp2_with (first
  | (refine⟨trivial,(fun h=>by cases h),(hmade _).mono ?_⟩; rintro e w' ⟨rfl,rfl⟩)
  | (gi_at_range; refine Zb9 _ rfl _ 282 rfl _ _ Tryz.underlying282 b A clock rfl hb hold nd ?_; intro w0 hI0 hg0 hs0)
  | gi_in)
 go_frame
 gi_loopw [5] (fun v wr=>∃ (left:List MapEntry) (ss:List Int),MIt wr b w.heap.size A.toList left/\(ss++left.map Zid).Perm (A.toList.map Zid)/\wr.ownsRow w.heap.size 3 1 v ss.length (ss.map (Value.int .i64))/\(v=.slice none 0 0 ↔ ss=[])/\(∀ g,v.ownBlock=some g->g≠w.heap.size)/\Below w.heap.size w wr)
  (fun _ wr=>Z7l wr b w.heap.size)
 case atStart =>
  exact⟨A.toList,[],hI0,List.Perm.refl _,World.ownsRow_nil _ _ _ _,by simp,(fun g h=>by simp [Value.ownBlock] at h),(Below.refl _ _).grown hg0 (Nat.le_refl _) (fun j hj=>by cases hj)⟩
 case round =>
  obtain⟨left,ss,hI,hP,hrow,hnil,hne,hB⟩:=hrel
  gi_wp2_with (first
   | (gi_at_next; refine Zdo _ rfl _ rfl b w.heap.size A.toList left rfl hI ?_ ?_)
   | gi_in)
  ·intro hl
   subst hl
   have hP':ss.Perm (A.toList.map Zid):=by simpa using hP
   rcases hrow.2 with ⟨rfl,h0⟩|⟨g,cap,cur,rfl,hbase,hb',h1,h2,h3,h4⟩
   ·have ss0:ss=[]:=hnil.1 rfl
    subst ss0
    have hc:=fun n=>hsort0 n none 0 wr
    gi_wp2_with (first
     | (refine⟨trivial,(fun h=>by cases h),(hc _).mono ?_⟩; rintro e w' ⟨rfl,rfl⟩)
     | gi_in)
    go_ret
    exact⟨_,[],rfl,hP',by simpa using World.ownsRow_nil _ w.heap.size 3 1,by simp,hB⟩
   ·have hH:Go.Sort.Holds (Value.int .i64) wr g 0 ss.toArray:=holds_of_blockI hb' (by simpa using h4)
    have hgl:g<wr.heap.size:=(Array.getElem?_eq_some_iff.1 hb').1
    have sl:ss.length<=A.size:=by have:=hP'.length_eq; simp at this; omega
    have hc:=fun n=>hsort n g 0 cap ss wr hH hgl oM
    gi_wp2_with (first
     | (refine⟨trivial,(fun h=>by cases h),(hc _).mono ?_⟩; rintro e w' ⟨rfl,nn,os,rfl⟩)
     | gi_in)
    go_ret
    exact⟨_,ss,rfl,hP',ownsRow_sortedI (by simp) hbase hb' h1 h2 h3,by simpa using hnil,hB.grown (grownBy_sortedI _) hB.size (fun j hj=>by cases hj; exact hbase)⟩
  ·intro e l1 l2 w2 hl hI2 hg2 hs2 hen
   obtain⟨k,hk0⟩:=hk e (hI.mem (by rw[hl]; simp))
   obtain⟨ek,ev,eb⟩:=e
   simp only at hk0
   subst hk0
   have hrow2:=hrow.kept hg2 (Z9t hne)
   clear hs2
   have sl:ss.length<=A.size:=by have:=hP.length_eq; simp at this; omega
   obtain⟨i0,hi,hz0,hz1,hz2⟩:=info_parts Z9p
   have hcell:=cell_one_new (w2.alloc (.cells #[.int .i64 k,.int .u32 q] 286)) (.int .i64 k) 3
   have hsz1:(w2.alloc (.cells #[.int .i64 k,.int .u32 q] 286)).heap.size=w2.heap.size+1:=by show (w2.heap.push _).size=_; rw[Array.size_push]
   rw[hsz1] at hcell
   clear hsz1
   gi_wp2_with (first
    | (gi_at_builtin; refine wpListIn_append_own_at _ rfl _ _ 40 rfl w.heap.size 3 i0 (.int .i64 0) 1 8 Tryz.underlying40 hi hz0 hz1 hz2 rfl dM _ _ _ rfl ((hrow2.alloc _).alloc _) ⟨w2.heap.size+1,0,none⟩ 1 1 [.int .i64 k] rfl rfl hcell (by simp [Value.oneCell']) (by unfold maxLen; omega) oM (by have:=hB.size; have:=hg2.size; simp; omega) ?_; intro v' w3 hown' hg3 hnil3 hat3; go_frame)
    | gi_in)
   have ub:∀ g,Value.ownBlock _=some g->w.heap.size<=g:=fun g hg=>(hrow.lt g hg).1
   have hI3:=((hI2.alloc (.cells #[.int .i64 k,.int .u32 q] 286)).alloc (.cells #[.int .i64 k] 3)).kept hg3 (fun e=>by have:=ub b e.symm; omega) (fun e=>hne _ e.symm rfl)
   have wl:=hI2.lt.1
   have hz:∀ o1 o2,((w2.alloc o1).alloc o2).heap.size=w2.heap.size+2:=fun o1 o2=>by show ((w2.heap.push _).push _).size=_; rw[Array.size_push,Array.size_push]
   refine⟨⟨l1++l2,ss++[k],hI3,?_,by simpa using hown',⟨fun e=>absurd (hnil3.1 e).2 dM,fun e=>by simp at e⟩,fun g hg=>?_,?_⟩,?_⟩
   ·refine List.Perm.trans ?_ hP
    rw[hl,List.append_assoc,List.map_append,List.map_append,List.map_cons]
    refine List.Perm.append_left _ ?_
    show (k :: (l1.map Zid++l2.map Zid)).Perm (l1.map Zid++k :: l2.map Zid)
    exact List.perm_middle.symm
   ·rcases hat3 with q|q
    ·rw[q] at hg
     exact hne g hg
    ·rw[q,hz] at hg
     cases hg
     omega
   ·refine ((((hB.grown hg2 hB.size (fun j hj=>by cases hj; exact Nat.le_refl _)).alloc (Nat.le_trans hB.size hg2.size) _).alloc ?_ _).grown hg3 ?_ (fun j hj=>ub j hj))
    ·have:=hB.size; have:=hg2.size; show w.heap.size<=(w2.heap.push _).size; rw[Array.size_push]; omega
    ·rw[hz]; have:=hB.size; have:=hg2.size; omega
   ·rw[hI3.cnt,hI.cnt,hl]
    simp
def Wj:List Int->List Int
 | []=>[]
 | a :: l=>Zbe a (Wj l)
theorem Vh:∀ l:List Int,(Wj l).Perm l
 | []=>List.Perm.refl _
 | a :: l=>(Zao a _).trans ((Vh l).cons a)
theorem Zfd:∀ l:List Int,(Wj l).Pairwise (· <= ·)
 | []=>List.Pairwise.nil
 | a :: l=>Qn a _ (Zfd l)
theorem Zp2 {q:Int} {ρ:Go.Ev.Ren}:∀ {l:List Int} {xs:List MapEntry},Yn (Zd1 ρ) (Fu q l) xs->xs.map Zid=l/\∀ x∈xs,∃ k:Int,x.key=.agg #[.int .i64 k,.int .u32 q]
 | [],[],_=>⟨rfl,fun x hx=>by cases hx⟩
 | [],_ :: _,h=>h.elim
 | _ :: _,[],h=>h.elim
 | b :: l,x :: xs,h=>by
  obtain⟨h1,h2⟩:=Zp2 h.2
  obtain⟨cs,hcs,hc⟩:=h.1.1
  have hk:x.key=.agg #[.int .i64 b,.int .u32 q]:=by
   rw[hcs]
   match hcl:cs.toList,hc with
   | [u,v],hc =>
    have e1:u=.int .i64 b:=hc.1
    have e2:v=.int .u32 q:=hc.2.1
    rw[e1,e2] at hcl
    rw[<-Array.toArray_toList (xs:=cs),hcl]
  refine⟨?_,fun y hy=>?_⟩
  ·rw[List.map_cons,h1]
   show Zid x :: l=b :: l
   unfold Zid
   rw[hk]
  ·rcases List.mem_cons.1 hy with rfl|hy
   ·exact⟨b,hk⟩
   ·exact h2 y hy
def Zli:Kn1:=fun args h=>match args with
 | [.c (.ptr r 0),.c (.int .u32 q)]=>(Ee h r).bind fun m=>(Zjp h m q).bind fun l=>Yt (Nat.ble l.length 1000000) (match Wj l with
  | []=>some (.w (.c .snil),h)
  | k :: ks=>some (.w (.c (.slice h.next 0 (k :: ks).length 1)),h.new (.row 1 ((k :: ks).map fun i=>[.int .i64 i]) false)))
 | _=>none
theorem Vn {args:List W} {h h':Hq} {v:V} (e:Zli args h=some (v,h')):Zi 124 args h v h':=by
 unfold Zli at e
 split at e
 ·rename_i r q
  obtain⟨m,hr,e⟩:=Zj e
  have hr:=Jk hr
  obtain⟨l,hm,e⟩:=Zj e
  have hm:=Np hm
  obtain⟨bl,e⟩:=Zq.1 e
  have bl:=lQ bl
  refine⟨⟨Tryz.f124,Tryz.func124,kR,by decide⟩,fun ρ w vals rd mm hR hd ha=>?_⟩
  obtain⟨la,hla,cs,t,fr,hcell,hsz,hfr,hw,hrd⟩:=hR.obj r _ hr
  obtain⟨lm,hlm,xs,clock,hxb,hxs,hborn⟩:=hR.obj m _ hm
  obtain⟨cv,hcv1,lm',hlm',rfl⟩:=hrd 0 (.map m) rfl
  rw[hlm] at hlm'
  cases hlm'
  obtain⟨k1,k2⟩:=Zp2 hxs
  have hv:vals.toArray = #[.pointer (some ⟨la.blk,la.base,none⟩),.int .u32 q]:=by
   match vals,ha with
   | [u1,u2],ha =>
    obtain⟨l1,hl1,e1⟩:=ha.1
    rw[hla] at hl1
    cases hl1
    have e2:u2=.int .u32 q:=ha.2.1
    rw[e1,e2]
    rfl
  have ht:w.cell? ⟨la.blk,la.base,none⟩=some (.map (some lm.blk)):=by simpa [World.cell?,hcell] using hcv1
  have xl:xs.size=l.length:=by rw[<-Array.length_toList,<-k1,List.length_map]
  rw[hv]
  refine (Vy (callsIn_wide.1 (Z72 mm w la.blk la.base lm.blk q xs clock ht hxb hborn.old ((List.pairwise_map.2 (hborn.up.imp fun h e=>by omega))) oM k2))).mono ?_
  rintro e' w' ⟨v',ss,rfl,p1,p2,p3,p4⟩
  rw[k1] at p1
  have pp:ss.Perm (Wj l):=p1.trans (Vh l).symm
  split at e
  ·rename_i hs
   cases e
   rw[hs] at pp
   obtain rfl:=List.Perm.eq_nil pp
   refine⟨ρ,v',rfl,hR.stay p4.block p4.size p4.os p4.tape p4.output,?_⟩
   rw[p3.2 rfl]
   rfl
  ·rename_i k ks hs
   cases e
   rw[<-hs]
   have so:=Zfd l
   exact Zig so pp (by rw[hs]; simp) hR hd p2 p4
 ·cases e
open Go.Ev
def Z8p (acc:List Int):List Int->List Int
 | []=>acc
 | b :: l=>Z8p (Sq b acc) l
def Znw:Kn1:=fun args h=>match args with
 | [.c (.ptr t 0)]=>(Uf h t).bind fun X=>Zli [.c (.ptr X.rv 0),.c (.int .u32 X.sq)] h
 | _=>none
def Znl:Kn1:=fun args h=>match args with
 | [.c (.ptr s 0),.c (.int .i64 a),.c (.int .i64 b)]=>(Da h s).bind fun S=>(Uf h S.tx).bind fun X=>(Ee h X.rv).bind fun m=>(Zjp h m X.sq).bind fun lr=>(getM h X.ch).bind fun l=>(Bq ((l.length:Int)+a) ((lr.length:Int)+b)).bind fun n=>Yt (Nb l&&Nat.ble lr.length 1000000) (some (.tup [.c (.int .i64 n),.c (.int .i64 ((lr.length:Int)+b))],h))
 | _=>none
section
variable (Hh:Hearts K Tryz.prog)
include Hh
theorem Z93 {args:List W} {h h':Hq} {v:V} (e:Zli args h=some (v,h')):v=.w (.c .snil)/\h'=h\/∃ n R,v=.w (.c (.slice h.next 0 n 1))/\h'=h.new (.row 1 R false):=by
 unfold Zli at e
 split at e
 ·obtain⟨m,hr,e⟩:=Zj e
  obtain⟨l,hm,e⟩:=Zj e
  obtain⟨b,e⟩:=Zq.1 e
  split at e
  ·cases e; exact .inl ⟨rfl,rfl⟩
  ·cases e; exact .inr ⟨_,_,rfl,rfl⟩
 ·cases e
theorem Zba {args:List W} {h h':Hq} {v:V} (e:Znw args h=some (v,h')):Zi 63 args h v h':=by
 unfold Znw at e
 split at e
 ·rename_i t
  obtain⟨X,ht,e⟩:=Zj e
  have ht:=Yk ht
  refine Zy.tidy ⟨Tryz.f63,Tryz.func63,kR,by decide⟩ fun tidy=>?_
  have l1:=tidy _ _ ht
  rcases Z93 Hh e with ⟨rfl,rfl⟩|⟨n,R,rfl,rfl⟩
  ·
   refine fnG Hh Tryz.f63 ?_
   have Jf:=Jl @ht @e
   repeat (first|apply Zu|apply Ye|apply Yc|refine Goes.Zl Z6 ?_|refine Zr Hh (EY (EY Za (Uj Hh)) Vn) Z6 ?_|refine G6 Hh (EY (EY Za (Uj Hh)) Vn) Mf ?_)
   exact Zf
  ·
   refine fnG Hh Tryz.f63 ?_
   have Jf:=Jl @ht @e
   repeat (first|apply Zu|apply Ye|apply Yc|refine Goes.Zl Z6 ?_|refine Zr Hh (EY (EY Za (Uj Hh)) Vn) Z6 ?_|refine G6 Hh (EY (EY Za (Uj Hh)) Vn) Mf ?_)
   exact Zf
 ·cases e
attribute [go_sem] Zli
theorem Zjz {q:Int} {L:List Int} {sv:C} {tb mm:Nat} (ne:tb≠mm):∀ (rest:List Int) (i:Nat) (acc:List Int) (ts:Zw) (h:Hq),L.drop i=rest->(∀ k∈L,0<=k)->L.length<=1000000->h.get tb=some (.row 1 [[.map mm]] false)->h.get mm=some (.map (Fu q acc))->(sv=.snil/\L=[]\/∃ p,sv=.slice p 0 L.length 1/\h.get p=some (.row 1 (L.map fun i=>[.int .i64 i]) false)) ->
  Ze ts 1=.w (.c (.int .u32 q))->Ze ts 5=.w (.c (.ptr tb 0))->Ze ts 14=.w (.c sv)->Ze ts 15=.w (.c (.int .i64 (L.length:Nat)))->Ze ts 16=.w (.c (.int .i64 (i:Nat))) ->
  Z7 42 none (q69 [1,1,0,1,2]) [] ts h fun x ds' ts' h'=>x=.exit 0/\ds'=[]/\h'.next=h.next/\h'.get mm=some (.map (Fu q (Z8p acc rest)))/\(∀ m,m≠mm->h'.get m=h.get m)/\Ze ts' 0=Ze ts 0/\Ze ts' 4=Ze ts 4/\Ze ts' 5=.w (.c (.ptr tb 0)):=by
 intro rest
 induction rest with
 | nil =>
  intro i acc ts h hr hk hL ht hm hs t1 t5 t14 t15 t16
  have il:L.length<=i:=by
   have:=congrArg List.length hr
   rw[List.length_drop] at this
   simp only[List.length_nil] at this
   omega
  have Jf:=Jl @t15 @t16
  iterate 6 (first|apply Zu|apply Gr|apply J8|refine Goes.Zl Zn ?_|refine Zr Hh Za Zn ?_)
  exact⟨rfl,rfl,rfl,hm,fun _ _=>rfl,by simp (maxSteps:=9^6) +decide (disch:=first|exact dZ|fail) only [go_sem,Zk,Zh,simprocAttr],by simp (maxSteps:=9^6) +decide (disch:=first|exact dZ|fail) only [go_sem,Zk,Zh,simprocAttr],by simp (maxSteps:=9^6) +decide (disch:=first|exact dZ|fail) only [go_sem,Zk,Zh,simprocAttr,t5]⟩
 | cons k rest ih =>
  intro i acc ts h hr hk hL ht hm hs t1 t5 t14 t15 t16
  have hi:L[i]? = some k:=by
   have:=congrArg (fun l=>l[0]?) hr
   simpa [List.getElem?_drop] using this
  have il:i<L.length:=by
   rcases Nat.lt_or_ge i L.length with h1|h1
   ·exact h1
   ·rw[List.getElem?_eq_none h1] at hi; cases hi
  have hr':L.drop (i+1)=rest:=by
   rw[List.drop_eq_getElem_cons il] at hr
   exact (List.cons.inj hr).2
  rcases hs with ⟨rfl,rfl⟩|⟨p,rfl,hp⟩
  ·cases il
  have rk:(L.map fun i=>[C.int .i64 i])[i]? = some [C.int .i64 k]:=by rw[List.getElem?_map,hi]; rfl
  have k0:=hk k (List.mem_of_getElem? hi)
  have pm:p≠mm:=fun e=>by rw[e,hm] at hp; cases hp
  have e1:(((i:Nat):Int)+1)=((i+1:Nat):Int):=rfl
  have lfi:=Xf
  obtain⟨R,hR⟩:=xzE ((L.map fun i=>[C.int .i64 i]))
  obtain⟨N,hN⟩:=xzE (L.length)
  have hp':=hp
  have t14':=t14
  have t15':=t15
  rw[hR] at hp' rk
  rw[hN] at t14' t15' il hL
  have Jf:=Um @t1 @t5 @t14' (Yw @t15' @t16 @ht @hm @hp' @rk @e1 @Nat.div_one @Nat.mod_one)
  iterate 12 (first|apply Zu|apply Ye|apply Jc|apply J8|refine Goes.Zl Z6 ?_|refine Zr Hh (EY Za (Rk Hh)) Z6 ?_)
  show Z7 42 none (q69 [1,1,0,1,2]) _ _ _ _
  refine (ih (i+1) (Sq k acc) _ _ hr' hk oM ((Zd ne).trans ht) (Zx ..) (.inr ⟨p,rfl,(Zd pm).trans hp⟩) ?_ ?_ ?_ ?_ ?_).mono ?_
  ·have Jf:=@t1; exact Zn
  ·have Jf:=@t5; exact Zn
  ·have Jf:=@t14; exact Zn
  ·have Jf:=@t15; exact Zn
  ·exact Zf
  rintro x1 d1 u1 h1 ⟨q1,q2,q3,q4,q5,q6,q7,q8⟩
  exact⟨q1,q2,q3,q4,fun m hne=>(q5 m hne).trans (Zd hne),q6.trans Zf,q7.trans Zf,q8⟩
structure ClnR (h h':Hq) (sh:Nat) (esc eso esf:List (W × W)):Prop where
 nx:h'.next=h.next+6+sh
 kp:∀ m,m<h.next->h'.get m=h.get m
 c1:h'.get (h.next+3+sh)=some (.map esc)
 c2:h'.get (h.next+4+sh)=some (.map eso)
 c3:h'.get (h.next+5+sh)=some (.map esf)
set_option maxHeartbeats 8000000 in
theorem Z6l {h:Hq} {t m:Nat} {X:Tx} {lr:List Int} {esc eso esf:List (W × W)} (l1:t<h.next) (l2:X.rv<h.next) (l3:m<h.next) (l4:X.ch<h.next) (l5:X.od<h.next) (l6:X.fr<h.next) (ht:h.get t=some (.row 13 [txL X] false)) (hr:h.get X.rv=some (.row 1 [[.map m]] false)) (hm:h.get m=some (.map (Fu X.sq lr))) (kl:lr.length<=1000000) (k0:∀ k∈lr,0<=k) (hc:h.get X.ch=some (.map esc)) (ho:h.get X.od=some (.map eso)) (hf:h.get X.fr=some (.map esf)) :
  ∃ h' sh,Zi 69 [.c (.ptr t 0),.c (.int .u32 X.sq)] h (.w (.g [.map (h.next+3+sh),.map (h.next+4+sh),.map (h.next+5+sh),.ptr (h.next+2) 0])) h'/\ClnR h h' sh esc eso esf:=by
 have bl:Nat.ble lr.length 1000000=true:=Nat.ble_eq_true_of_le kl
 have sp:=Vh lr
 have sl:(Wj lr).length<=1000000:=by rw[sp.length_eq]; exact kl
 have s0:∀ k∈Wj lr,0<=k:=fun k hk=>k0 k (sp.mem_iff.1 hk)
 obtain⟨v,h',cc,sh,rfl,q⟩:∃ v h',Zi 69 [.c (.ptr t 0),.c (.int .u32 X.sq)] h v h'/\∃ sh,v=.w (.g [.map (h.next+3+sh),.map (h.next+4+sh),.map (h.next+5+sh),.ptr (h.next+2) 0])/\ClnR h h' sh esc eso esf:=by
  rcases hs:Wj lr with _|⟨k,ks⟩
  ·
   refine Y0 Hh Tryz.f69 ?_
   have Jf:=Nt @ht @hr @hm @bl @hs @G5
   iterate 8 (first|apply Zu|apply Jc|refine Zr Hh (EY (EY Za (Vo Hh)) Vn) Zfq ?_)
   refine (Zjz Hh (q:=X.sq) (L:=[]) (sv:=.snil) (tb:=h.next+2) (mm:=h.next+1) oM [] 0 [] _ _ rfl (fun _ e=>by cases e) dM ?_ ?_ (.inl ⟨rfl,rfl⟩) ?_ ?_ ?_ ?_ ?_).mono ?_
   ·exact Zf
   ·exact Zf
   ·exact Zf
   ·exact Zf
   ·exact Zf
   ·exact Zf
   ·exact Zf
   rintro x ds' ts' h2 ⟨rfl,rfl,nx,m2,kp,u0,u4,u5⟩
   simp only[H.Zc,H.Zb] at nx
   have e0:Ze ts' 0=.w (.c (.ptr t 0)):=u0.trans Zf
   have e4:Ze ts' 4=.w (.c (.ptr h.next 0)):=u4.trans Zf
   have kq:∀ m,m<h.next->h2.get m=h.get m:=fun m hm=>(kp m oM).trans (by exact Jg)
   have w1:=(kq _ l1).trans ht
   have w4:=(kq _ l4).trans hc
   have w5:=(kq _ l5).trans ho
   have w6:=(kq _ l6).trans hf
   have w7:h2.get h.next=some (.row 4 [[.mnil,.mnil,.mnil,.pnil]] false):=(kp _ oM).trans Zf
   have Jf:=Yw Jf @e0 @e4 @u5 @w1 @w4 @w5 @w6 @w7
   iterate 3 (first|apply Zu|apply Yc|refine G6 Hh (EY (EY Za (Xx Hh)) (Xy Hh)) Zgk ?_)
   refine⟨_,_,Zn,0,?_,?_,fun m hm=>?_,?_,?_,?_⟩
   ·simp only[nx,Nat.add_assoc,Nat.reduceAdd]
   ·simp only[H.Zb,H.Zc,nx]
   ·refine Eq.trans ?_ (kq m hm); exact Jg
   ·simp (discharger:=omega) only [H.get_put,H.Zg,H.Zc,H.Zb,nx,Nat.add_assoc,Nat.reduceAdd,if_neg,if_true]<;>first|rfl|omega
   ·simp (discharger:=omega) only [H.get_put,H.Zg,H.Zc,H.Zb,nx,Nat.add_assoc,Nat.reduceAdd,if_neg,if_true]<;>first|rfl|omega
   ·simp (discharger:=omega) only [H.get_put,H.Zg,H.Zc,H.Zb,nx,Nat.add_assoc,Nat.reduceAdd,if_neg,if_true]<;>first|rfl|omega
  ·
   have sl2:ks.length+1<=1000000:=by rw[hs] at sl; exact sl
   have lfi:=Xf
   refine Y0 Hh Tryz.f69 ?_
   have Jf:=Nt @ht @hr @hm @bl @hs @lfi
   iterate 8 (first|apply Zu|apply Jc|refine Zr Hh (EY (EY Za (Vo Hh)) Vn) Zfq ?_)
   refine (Zjz Hh (q:=X.sq) (L:=k :: ks) (sv:=.slice (h.next+3) 0 (k :: ks).length 1) (tb:=h.next+2) (mm:=h.next+1) oM (k :: ks) 0 [] _ _ rfl (by rw[<-hs]; exact s0) sl2 ?_ ?_ (.inr ⟨_,rfl,?_⟩) ?_ ?_ ?_ ?_ ?_).mono ?_
   ·exact Zf
   ·exact Zf
   ·exact Zf
   ·exact Zf
   ·exact Zf
   ·exact Zf
   ·exact Zf
   ·exact Zf
   rintro x ds' ts' h2 ⟨rfl,rfl,nx,m2,kp,u0,u4,u5⟩
   simp only[H.Zc,H.Zb] at nx
   have e0:Ze ts' 0=.w (.c (.ptr t 0)):=u0.trans Zf
   have e4:Ze ts' 4=.w (.c (.ptr h.next 0)):=u4.trans Zf
   have kq:∀ m,m<h.next->h2.get m=h.get m:=fun m hm=>(kp m oM).trans (by exact Jg)
   have w1:=(kq _ l1).trans ht
   have w4:=(kq _ l4).trans hc
   have w5:=(kq _ l5).trans ho
   have w6:=(kq _ l6).trans hf
   have w7:h2.get h.next=some (.row 4 [[.mnil,.mnil,.mnil,.pnil]] false):=(kp _ oM).trans Zf
   have Jf:=Yw Jf @e0 @e4 @u5 @w1 @w4 @w5 @w6 @w7
   iterate 3 (first|apply Zu|apply Yc|refine G6 Hh (EY (EY Za (Xx Hh)) (Xy Hh)) Zgk ?_)
   refine⟨_,_,Zn,1,?_,?_,fun m hm=>?_,?_,?_,?_⟩
   ·simp only[nx,Nat.add_assoc,Nat.reduceAdd]
   ·simp only[H.Zb,H.Zc,nx]
   ·refine Eq.trans ?_ (kq m hm); exact Jg
   ·simp (discharger:=omega) only [H.get_put,H.Zg,H.Zc,H.Zb,nx,Nat.add_assoc,Nat.reduceAdd,if_neg,if_true]<;>first|rfl|omega
   ·simp (discharger:=omega) only [H.get_put,H.Zg,H.Zc,H.Zb,nx,Nat.add_assoc,Nat.reduceAdd,if_neg,if_true]<;>first|rfl|omega
   ·simp (discharger:=omega) only [H.get_put,H.Zg,H.Zc,H.Zb,nx,Nat.add_assoc,Nat.reduceAdd,if_neg,if_true]<;>first|rfl|omega
 exact⟨h',sh,cc,q⟩
end
section
variable (Hh:Hearts K Tryz.prog)
include Hh
theorem Yaf {h:Hq} {t m:Nat} {X:Tx} {lr:List Int} {esc eso esf:List (W × W)} {c r:Int} (l1:t<h.next) (l2:X.rv<h.next) (l3:m<h.next) (l4:X.ch<h.next) (l5:X.od<h.next) (l6:X.fr<h.next) (ht:h.get t=some (.row 13 [txL X] false)) (hr:h.get X.rv=some (.row 1 [[.map m]] false)) (hm:h.get m=some (.map (Fu X.sq lr))) (kl:lr.length<=1000000) (k0:∀ k∈lr,0<=k) (hc:h.get X.ch=some (.map esc)) (ho:h.get X.od=some (.map eso)) (hf:h.get X.fr=some (.map esf)) (bo:X.op=false) (c0:0<=c) (r0:0<=r) :
  ∃ h' sh,Zi 28 [.c (.ptr t 0),.c (.int .i64 c),.c (.int .i64 r)] h (.w (.c (.int .i64 0))) h'/\h'.next=h.next+7+sh/\h'.get t=some (.row 13 [txL { X with op:=true,cr:=c,rk:=r,to:=.map h.next,b1:=.map (h.next+4+sh),b2:=.map (h.next+5+sh),b3:=.map (h.next+6+sh),b4:=.ptr (h.next+3) 0 }] false)/\h'.get h.next=some (.map [])/\∀ m,m<h.next->m≠t->h'.get m=h.get m:=by
 have n2:X.rv≠t:=fun e1=>by
  rw[e1,ht] at hr
  exact absurd (O.row.inj (Option.some.inj hr)).1 dM
 have n3:=Xp ht hm
 have n4:=Xp ht hc
 have n5:=Xp ht ho
 have n6:=Xp ht hf
 have c0':decide (c<0)=false:=decide_eq_false oM
 have r0':decide (r<0)=false:=decide_eq_false oM
 obtain⟨v,h',cc,rfl,sh,q1,q2,q3,q4⟩:∃ v h',Zi 28 [.c (.ptr t 0),.c (.int .i64 c),.c (.int .i64 r)] h v h'/\v=.w (.c (.int .i64 0))/\∃ sh,h'.next=h.next+7+sh/\h'.get t=some (.row 13 [txL { X with op:=true,cr:=c,rk:=r,to:=.map h.next,b1:=.map (h.next+4+sh),b2:=.map (h.next+5+sh),b3:=.map (h.next+6+sh),b4:=.ptr (h.next+3) 0 }] false)/\h'.get h.next=some (.map [])/\∀ m,m<h.next->m≠t->h'.get m=h.get m:=by
  refine Y0 Hh Tryz.f28 ?_
  have Jf:=Um @ht @bo @c0' @r0'
  iterate 19 (first|apply Zu|apply Ye|apply Jc|refine Goes.Zl Gu ?_|refine Zr Hh (EY Za (Uj Hh)) Gu ?_)
  refine Ow fun hA eA=>?_
  have nA:hA.next=h.next+1:=nxQ eA
  have kA:∀ m,m<h.next->m≠t->hA.get m=h.get m:=fun m hm hne=>by rw[eA]; simp (discharger:=omega) only [H.get_put,H.Zg,H.Zb,H.Zc,if_neg]
  have aT:hA.get t=some (.row 13 [txL { X with op:=true,cr:=c,rk:=r,to:=.map h.next }] false):=by rw[eA]; simp (discharger:=omega) only [H.get_put,H.Zg,H.Zb,H.Zc,if_neg,if_true]<;>rfl
  have aN:hA.get h.next=some (.map []):=by rw[eA]; simp (discharger:=omega) only [H.get_put,H.Zg,H.Zb,H.Zc,if_neg,if_true]<;>rfl
  clear eA
  obtain⟨h2,sh,cl,Q⟩:=Z6l Hh (h:=hA) (t:=t) (m:=m) (X:={ X with op:=true,cr:=c,rk:=r,to:=.map h.next }) (lr:=lr) (esc:=esc) (eso:=eso) (esf:=esf) oM (show X.rv<_ by omega) oM (show X.ch<_ by omega) (show X.od<_ by omega) (show X.fr<_ by omega) aT ((kA _ l2 n2).trans hr) ((kA _ l3 (Ne.symm n3)).trans hm) kl k0 ((kA _ l4 (Ne.symm n4)).trans hc) ((kA _ l5 (Ne.symm n5)).trans ho) ((kA _ l6 (Ne.symm n6)).trans hf)
  have w1:=(Q.kp t oM).trans aT
  have cl:Zi 69 [.c (.ptr t 0),.c (.int .u32 X.sq)] hA (.w (.g [.map (hA.next+3+sh),.map (hA.next+4+sh),.map (hA.next+5+sh),.ptr (hA.next+2) 0])) h2:=cl
  have nQ:=Q.nx
  have le:Nat.ble hA.next h2.next=true:=Nat.ble_eq_true_of_le oM
  have Jf:=Um Jf @aT @w1 @le
  iterate 4 (first|apply Zu|apply Yc|refine Zr Hh (Zp Za cl) Gu ?_|refine G6 Hh (Zp Za cl) Zgi ?_)
  refine⟨_,_,Zf,rfl,sh,?_,?_,?_,fun m hm hne=>?_⟩
  ·simp only[H.Zb,nQ,nA]<;>omega
  ·simp only[H.get_put,if_true,nA]<;>simp only[txL,bo]<;>rw[show h.next+1+3+sh=h.next+4+sh by omega,show h.next+1+4+sh=h.next+5+sh by omega,show h.next+1+5+sh=h.next+6+sh by omega]
  ·rw[Zd oM,Q.kp _ oM]; exact aN
  ·rw[Zd hne,Q.kp _ oM]; exact kA m hm hne
 exact⟨h',sh,cc,q1,q2,q3,q4⟩
theorem Zxk {args:List W} {h h':Hq} {v:V} (e:Znl args h=some (v,h')):Zi 25 args h v h':=by
 unfold Znl at e
 split at e
 ·rename_i s a b
  obtain⟨S,hs,e⟩:=Zj e
  have hs:=Y8 hs
  obtain⟨X,hT,e⟩:=Zj e
  have ht:=Yk hT
  obtain⟨m,hR,e⟩:=Zj e
  have hr:=Jk hR
  obtain⟨lr,hM,e⟩:=Zj e
  have hm:=Np hM
  obtain⟨l,hl,e⟩:=Zj e
  have hc:=getM_some hl
  obtain⟨n,hn,e⟩:=Zj e
  obtain⟨bb,e⟩:=Zq.1 e
  cases e
  rw[aQ] at bb
  have bk:=bb.1
  have bl:=bb.2
  obtain⟨a0,a1,r0,r1,_⟩:=Gn hn
  refine Zy.tidy ⟨Tryz.f25,Tryz.func25,kR,by decide⟩ fun tidy=>?_
  have l1:=tidy _ _ hs
  have l2:=tidy _ _ ht
  have l3:=tidy _ _ hr
  have l4:=tidy _ _ hm
  have l5:=tidy _ _ hc
  have kk:Nat.ble l.length 1000000=true:=by
   unfold Nb at bk
   rw[aQ] at bk
   exact bk.2
  have e1:∀ {h1:Hq},h1.get S.tx=some (.row 13 [txL X] false)->h1.get X.ch=some (.map (Y5 l))->Zi3 [.c (.ptr S.tx 0)] h1=(match l with
   | []=>some (.w (.c .snil),h1)
   | p :: l'=>some (.w (.c (.slice h1.next 0 (p :: l').length 1)),h1.new (.row 1 ((Ml (p :: l')).map fun i=>[.int .i64 i]) false))):=fun {h1} g1 g2=>by
   have q1:Uf h1 S.tx=some X:=by unfold Uf; rw[g1]; rfl
   have q2:getM h1 X.ch=some l:=by unfold getM; rw[g2]; exact Qe l
   show (Uf h1 S.tx).bind _=_
   rw[q1]
   show (getM h1 X.ch).bind _=_
   rw[q2]
   show Yt (Nb l) _=_
   rw[bk]
   cases l<;>rfl
  have eT:Znw [.c (.ptr S.tx 0)] h=(match Wj lr with
   | []=>some (.w (.c .snil),h)
   | k :: ks=>some (.w (.c (.slice h.next 0 (k :: ks).length 1)),h.new (.row 1 ((k :: ks).map fun i=>[.int .i64 i]) false))):=by
   show (Uf h S.tx).bind _=_
   rw[hT]
   show (Ee h X.rv).bind _=_
   rw[hR]
   show (Zjp h m X.sq).bind _=_
   rw[hM]
   show Yt (Nat.ble lr.length 1000000) _=_
   rw[bl]
   rfl
  refine X0 rfl ?_
  have sp:=(Vh lr).length_eq
  rcases hS:Wj lr with _|⟨k,ks⟩
  ·rw[hS] at eT sp
   have lr0:lr.length=0:=sp.symm
   have eb:((lr.length:Nat):Int)+b=b:=oM
   rw[eb] at hn ⊢
   have e2:=e1 (h1:=h) ht hc
   cases l with
   | nil =>
    have hn:Bq a b=some n:=by simpa using hn
    refine Y0 Hh Tryz.f25 ?_
    have Jf:=El @hs @ht @eT @e2 @hn @G5 @Int.zero_add
    repeat (first|apply Zu|apply Yc|refine Zr Hh (EY (EY (EY Za (Zba Hh)) (Vr Hh)) (M0 Hh)) Bi ?_)
    exact⟨_,_,Zf,rfl,fun j hj=>by exact Jg⟩
   | cons p l' =>
    obtain⟨L,hL⟩:=xzE ((p :: l').length)
    obtain⟨R,hR⟩:=xzE (((Ml (p :: l')).map fun i=>[C.int .i64 i]))
    have lf:Yx K 40 (.c (.slice h.next 0 L 1))=true:=kR
    simp only[hL,hR] at e2 hn
    refine Y0 Hh Tryz.f25 ?_
    have Jf:=Lg @hs @ht @eT @e2 @hn @lf @G5 @Int.zero_add
    repeat (first|apply Zu|apply Yc|refine Zr Hh (EY (EY (EY Za (Zba Hh)) (Vr Hh)) (M0 Hh)) Bi ?_)
    exact⟨_,_,Zf,rfl,fun j hj=>by exact Jg⟩
  ·rw[hS] at eT sp
   obtain⟨R1,hR1⟩:=xzE (((k :: ks).map fun i=>[C.int .i64 i]))
   have eT:Znw [.c (.ptr S.tx 0)] h=some (.w (.c (.slice h.next 0 lr.length 1)),h.new (.row 1 R1 false)):=by rw[eT,<-hR1,<-sp]
   have lf1:∀ p n,Yx K 40 (.c (.slice p 0 n 1))=true:=fun p n=>kR
   have e2:=e1 (h1:=h.new (.row 1 R1 false)) (by rw[H.Zg,if_neg oM]; exact ht) (by rw[H.Zg,if_neg oM]; exact hc)
   cases l with
   | nil =>
    have hn:Bq a ((lr.length:Int)+b)=some n:=by simpa using hn
    have a0:0<a:=by simpa using a0
    have a1:a<=2048:=by simpa using a1
    have e2:Zi3 [.c (.ptr S.tx 0)] (h.new (.row 1 R1 false))=some (.w (.c .snil),h.new (.row 1 R1 false)):=e2
    refine Y0 Hh Tryz.f25 ?_
    have Jf:=Lg @hs @ht @eT @e2 @hn @lf1 @G5 @Int.zero_add
    repeat (first|apply Zu|apply Yc|refine Zr Hh (EY (EY (EY Za (Zba Hh)) (Vr Hh)) (M0 Hh)) Bi ?_)
    exact⟨_,_,Zf,rfl,fun j hj=>by exact Jg⟩
   | cons p l' =>
    obtain⟨L,hL⟩:=xzE ((p :: l').length)
    obtain⟨R,hR⟩:=xzE (((Ml (p :: l')).map fun i=>[C.int .i64 i]))
    simp only[hL,hR] at e2 hn
    refine Y0 Hh Tryz.f25 ?_
    have Jf:=Lg @hs @ht @eT @e2 @hn @lf1 @G5 @Int.zero_add
    repeat (first|apply Zu|apply Yc|refine Zr Hh (EY (EY (EY Za (Zba Hh)) (Vr Hh)) (M0 Hh)) Bi ?_)
    exact⟨_,_,Zf,rfl,fun j hj=>by exact Jg⟩
 ·cases e
end
end
end Go.Proofs.YteiljiijagmonaaGreatDoor
