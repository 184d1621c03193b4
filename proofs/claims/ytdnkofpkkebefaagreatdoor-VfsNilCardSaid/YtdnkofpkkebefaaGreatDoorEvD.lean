/- The evaluator, its soundness and the calculus on its level: several texts in one. -/
import Derived.Test.YtdnkofpkkebefaaGreatDoorEvC
import Derived.ChangeArms
import Derived.OpenShut
import Derived.WideShapes
set_option linter.unusedSimpArgs false
set_option linter.unusedVariables false
set_option linter.unusedSectionVars false
/- Regions that draw their order, in which a call panics. -/
namespace Go.Ev
open Go.RowKit
def depsOf (k : Nat) : List Oper → Nat → List Nat → List Nat
 | [], _, acc => acc
 | o :: l, i, acc => depsOf k l (i + 1) (bif Nat.beq i k || acc.any (fun j => waitsB o j) then i :: acc else acc)
def kdFree (op : Op) : Bool := match kd op with
 | .pure => true
 | .read => true
 | _ => false
def firstEff : List Oper → Nat → Nat
 | [], i => i
 | o :: l, i => bif kdFree o.op then firstEff l (i + 1) else i
def dstIs (o : Oper) (t : Nat) : Bool := match o.dst with
 | some d => Nat.beq d t
 | none => false
def lookOk (all : List Oper) (dep : List Nat) (o : Oper) : Bool := (looks all o).all fun t => all.zipIdx.all fun p => dep.contains p.2 || !dstIs p.1 t || waitsB o p.2
def freeShape (n : Nat) (all : List Oper) (dep : List Nat) (o : Oper) (i : Nat) : Bool := match o.guard, o.dst with
 | none, some d => Nat.blt d n && kdFree o.op && lookOk all dep o && all.zipIdx.all fun p => Nat.beq i p.2 || dep.contains p.2 || !dstIs p.1 d
 | _, _ => false
def shapeB (n : Nat) (all : List Oper) (dep : List Nat) (k : Nat) : Bool := all.zipIdx.all fun p => bif dep.contains p.2 then Nat.beq p.2 k || dep.any (fun j => waitsB p.1 j) else freeShape n all dep p.1 p.2
noncomputable def foldFree (K : Cfg) (all : List Oper) (dep : List Nat) (h : H) : List Oper → Nat → Tmps → Option Tmps
 | [], _, ts => some ts
 | o :: l, i, ts => bif dep.contains i then foldFree K all dep h l (i + 1) ts else match o.dst, evOp K (cutT ts (looks all o)) h o.op with
  | some d, some (v, _) => foldFree K all dep h l (i + 1) (ts.set d v)
  | _, _ => none
noncomputable def valB (K : Cfg) (all : List Oper) (dep : List Nat) (cts : Tmps) (h : H) : Bool := all.zipIdx.all fun p => dep.contains p.2 || (match p.1.dst, evOp K (cutT cts (looks all p.1)) h p.1.op with
  | some d, some (v, _) => eqV v (evalT cts d)
  | _, _ => false)
noncomputable def panDr2 (K : Cfg) (N : Pn) (n : Nat) (all : List Oper) (k : Nat) (dep : List Nat) (h : H) (o : Oper) : Option Tmps → Option (Int × Option Tmps × H)
 | some cts => bif shapeB n all dep k && valB K all dep cts h && backB all 0 && lookOk all dep o && dep.contains k then (match panOp K N (cutT cts (looks all o)) h o with
  | some (e, h') => some (e, none, h')
  | none => none) else none
 | none => none
noncomputable def panDr1 (K : Cfg) (N : Pn) (n : Nat) (all : List Oper) (ts : Tmps) (h : H) (k : Nat) : Option Oper → Option (Int × Option Tmps × H)
 | some o => panDr2 K N n all k (depsOf k all 0 []) h o (foldFree K all (depsOf k all 0 []) h all 0 ts)
 | none => none
noncomputable def panDr (K : Cfg) (N : Pn) (n : Nat) (all : List Oper) (ts : Tmps) (h : H) : Option (Int × Option Tmps × H) := panDr1 K N n all ts h (firstEff all 0) all[firstEff all 0]?
section
variable {K : Cfg} {P : Program} {T : TypeId} {N : Pn} {n : Nat} {ts cts : Tmps} {h h2 : H} {ρ : Ren} {w : World} {a : Act} {o : Oper} {ops : Array Oper} {Q : Exit → Act → World → Prop} {m : Nat} {v : V} {i : Nat} {e : Int}
theorem foldFree_out {all : List Oper} {dep : List Nat} {t : Nat} : ∀ {l : List Oper} {i : Nat} {ts cts : Tmps}, foldFree K all dep h l i ts = some cts → (∀ j o, l[j]? = some o → dep.contains (i + j) = false → dstIs o t = false) → evalT cts t = evalT ts t
 | [], _, _, _, e, _ => by cases e; rfl
 | o :: l, i, ts, cts, e, hn => by
  simp only [foldFree] at e
  have hrec : ∀ j o, l[j]? = some o → dep.contains (i + 1 + j) = false → dstIs o t = false := fun j o hj hd => hn (j + 1) o (by simpa using hj) (by rw [show i + (j + 1) = i + 1 + j by omega]; exact hd)
  cases hc : dep.contains i with
  | true =>
   rw [hc] at e
   exact foldFree_out e hrec
  | false =>
   rw [hc] at e
   simp only [cond_false] at e
   split at e
   ·rename_i d v x hd _
    rw [foldFree_out e hrec, evalT_set]
    have := hn 0 o rfl (by simpa using hc)
    unfold dstIs at this
    rw [hd] at this
    rw [if_neg]
    intro hh
    subst hh
    simp at this
   ·cases e
theorem mem_idx {all : List Oper} {i : Nat} {o : Oper} (ho : all[i]? = some o) : (o, i) ∈ all.zipIdx := by
 rw [List.mem_zipIdx_iff_getElem?]
 exact ho
structure DrInv (K : Cfg) (all : List Oper) (dep : List Nat) (n : Nat) (ts cts : Tmps) (h : H) (D : List Deferred) (ρ0 : Ren) (w0 : World) (listed : Array Bool) (a : Act) (w : World) : Prop where
 df : a.defers = D
 sz : a.tmps.size = n
 no : ∀ j, dep.contains j = true → listed.getD j false = false
 wd : w = w0
 done : ∀ j o d, all[j]? = some o → o.dst = some d → listed.getD j false = true → ConV ρ0 (evalT cts d) (a.tmps.getD d Go.undef)
 rest : ∀ t, (∀ j o, all[j]? = some o → listed.getD j false = true → dstIs o t = false) → ConV ρ0 (evalT ts t) (a.tmps.getD t Go.undef)
theorem dr_look {all : List Oper} {dep : List Nat} {D : List Deferred} {ρ0 : Ren} {w0 : World} {listed : Array Bool} (hf : foldFree K all dep h all 0 ts = some cts) (I : DrInv K all dep n ts cts h D ρ0 w0 listed a w) (hl : lookOk all dep o = true) (haft : ∀ e ∈ o.after, Region.binds .any e = true → listed.getD e.on false = true) : ∀ t ∈ looks all o, ConV ρ0 (evalT cts t) (a.tmps.getD t Go.undef) := by
 intro t ht
 have h1 := List.all_eq_true.1 hl t ht
 by_cases hex : ∃ j oj, all[j]? = some oj ∧ dep.contains j = false ∧ dstIs oj t = true
 ·obtain ⟨j, oj, hj, hd, hs⟩ := hex
  have h2 := List.all_eq_true.1 h1 (oj, j) (mem_idx hj)
  simp only [hd, hs, Bool.not_true, Bool.false_or] at h2
  unfold dstIs at hs
  split at hs
  ·rename_i d hdd
   obtain rfl := Nat.eq_of_beq_eq_true hs
   exact I.done j oj d hj hdd (waitsB_on h2 haft)
  ·cases hs
 ·have hout : ∀ j oj, all[j]? = some oj → dep.contains j = false → dstIs oj t = false := fun j oj hj hd => by
   cases hs : dstIs oj t with
   | false => rfl
   | true => exact absurd ⟨j, oj, hj, hd, hs⟩ hex
  rw [foldFree_out hf (fun j o hj hd => hout j o hj (by simpa using hd))]
  refine I.rest t (fun j oj hj hlj => hout j oj hj ?_)
  cases hc : dep.contains j with
  | false => rfl
  | true => rw [I.no j hc] at hlj; cases hlj
theorem panOp_in (hN : PnOk K P T N) {all : List Oper} (hlk : ∀ t ∈ looks all o, ConV ρ (evalT cts t) (a.tmps.getD t Go.undef)) (hsz : a.tmps.size = n) (hr : Rep K ρ h w) (hd : Dom ρ h.next) (hp : panOp K N (cutT cts (looks all o)) h o = some (e, h2)) (hall : all = ops.toList) {nx : Act → World → Prop}
  (hq : ∀ ρ' w', Aft K ρ h w ρ' h2 w' → Q (.panic [{ v := panV T e, recovered := false }]) a w') : o.guard = none ∧ o.wpIn (Wd none) m P a w nx Q := by
 unfold panOp at hp
 split at hp
 ·rename_i f args tys hg hop
  unfold panCallee at hp
  split at hp
  ·rename_i us fid first caps has hf
   have hc := hN _ _ _ _ _ hp
   have hrel := only_rel (cts := cts) hsz hlk
   obtain ⟨fa, ca, hfv, q1, q2⟩ := (evR_of hr hrel).c hf
   have hvals := (evR_of hr hrel).ws has
   have hall2 : All2 (ConW ρ) (callArgs us first caps) (fa.toList ++ args.toList.map (Act.only a (looks all o)).eval ++ ca.toList) := ((ptrW_all q1).append hvals).append (ptrW_all q2)
   have harr : (fa.toList ++ args.toList.map (Act.only a (looks all o)).eval ++ ca.toList).toArray = fa ++ args.map (Act.only a (looks all o)).eval ++ ca := by
    apply Array.ext'
    simp
   refine ⟨hg, fun _ _ => trivial, ?_⟩
   have e1 : o.semAt none a.eval = execOp a.eval o := by unfold Oper.semAt; rw [hop]
   have e2 : execOp a.eval o = execOp (Act.only a (looks all o)).eval o := by rw [hall]; exact only_eval a o (by rw [hop]; intro cs b hh; cases hh)
   have hrun : (o.semAt (Wd none).round a.eval).run P w = .ok (.enter fid (fa ++ args.map (Act.only a (looks all o)).eval ++ ca)) w := by
    show (o.semAt none a.eval).run P w = _
    rw [e1, e2]
    simp only [execOp, hop, resolve, hfv, Deferred.ofValue, Sem.run_bind, Sem.run_pure, Result.andThen_ok, invoke]
    exact callFunc_enter hc.1 _ w
   rw [hrun, Oper.uponIn_enter]
   refine ⟨fun hh => by simp [Wd, Fence.wide] at hh, ?_⟩
   have hcc := hc.2 ρ w _ none (m - 1) hr hd hall2
   rw [harr] at hcc
   refine hcc.mono ?_
   rintro en w' ⟨ρ', rfl, haft⟩
   exact hq ρ' w' haft
  ·cases hp
 ·cases hp
theorem panDr_ok (F : Fits K P) (hN : PnOk K P T N) {id : Nat} {ts' : Option Tmps} (e0 : panDr K N n ops.toList ts h = some (e, ts', h2)) : CodePan K P T n (.region id ops true) ts h e ts' h2 := by
 intro D ρ w a m hr hd ht hm
 unfold panDr panDr1 at e0
 generalize firstEff ops.toList 0 = k at e0
 split at e0
 ·rename_i o ho
  generalize depsOf k ops.toList 0 [] = dep at e0
  unfold panDr2 at e0
  split at e0
  ·rename_i cts hf
   cases hb : (shapeB n ops.toList dep k && valB K ops.toList dep cts h && backB ops.toList 0 && lookOk ops.toList dep o && dep.contains k) with
   | false => rw [hb] at e0; cases e0
   | true =>
    rw [hb] at e0
    simp only [cond_true] at e0
    simp only [Bool.and_eq_true] at hb
    obtain ⟨⟨⟨⟨b1, b2⟩, b3⟩, b4⟩, b5⟩ := hb
    split at e0
    ·rename_i e1 h1 hp
     cases e0
     refine wpIn_region_any F.mixed ?_
     have hr1 : Rep K ρ h { w with drawn := w.drawn + 1 } := hr.of_heap rfl
     have aft0 : Aft K ρ h w ρ h { w with drawn := w.drawn + 1 } := ⟨Ren.le.refl _, New.refl _ _ _, hr1, Fr.of_heap rfl rfl rfl rfl, Nat.le_refl _⟩
     have hno : ∀ j, (Array.replicate ops.size false).getD j false = false := fun j => by
      rw [Array.getD_eq_getD_getElem?]
      by_cases hj : j < ops.size <;> simp [hj]
     have hI : DrInv K ops.toList dep n ts cts h D ρ { w with drawn := w.drawn + 1 } (Array.replicate ops.size false) a { w with drawn := w.drawn + 1 } :=
      ⟨hm, ht.1, fun j _ => hno j, rfl, fun j _ _ _ _ hh => (by rw [hno] at hh; cases hh), fun t _ => ht.2 t⟩
     refine wpAny_inv (Inv := DrInv K ops.toList dep n ts cts h D ρ { w with drawn := w.drawn + 1 }) (fun i o ho e he hb => by have := backB_all b3 i o (by rw [Array.getElem?_toList]; exact ho) e he hb; omega) ?_ ?_ ops.size (Array.replicate ops.size false) a _ (by simp) (Nat.le_trans List.countP_le_length (by simp)) hI
     ·intro listed a w1 i oi nx hs hl hoi haft I hnx
      have hoi' : ops.toList[i]? = some oi := by rw [Array.getElem?_toList]; exact hoi
      have hi : i < ops.size := (Array.getElem?_eq_some_iff.1 hoi).1
      obtain rfl := I.wd
      have hsh := List.all_eq_true.1 b1 (oi, i) (mem_idx hoi')
      cases hc : dep.contains i with
      | true =>
       simp only [hc, cond_true] at hsh
       rw [Bool.or_eq_true] at hsh
       rcases hsh with hik | hdp
       ·obtain rfl := Nat.eq_of_beq_eq_true hik
        have : oi = o := by rw [hoi'] at ho; exact Option.some.inj ho
        subst this
        obtain ⟨g1, g2⟩ := panOp_in (ops := ops) (m := m) (nx := nx) (Q := fun x a' w' => x = .panic [{ v := panV T e, recovered := false }] ∧ ∃ ρ', Aft K ρ h w ρ' h2 w' ∧ TRelO ρ' n none a'.tmps ∧ a'.defers = D) hN (dr_look hf I b4 haft) I.sz hr1 hd hp rfl (fun ρ' w' aft => ⟨rfl, ρ', aft0.trans aft, trivial, I.df⟩)
        exact wpOpIn_of hoi g1 g2
       ·rw [List.any_eq_true] at hdp
        obtain ⟨j, hj, hw⟩ := hdp
        have h1 := waitsB_on hw haft
        rw [I.no j (by simpa using hj)] at h1
        cases h1
      | false =>
       simp only [hc, cond_false] at hsh
       unfold freeShape at hsh
       split at hsh
       ·rename_i d hg hdst
        simp only [Bool.and_eq_true] at hsh
        obtain ⟨⟨⟨s1, s2⟩, s3⟩, s4⟩ := hsh
        have hv := List.all_eq_true.1 b2 (oi, i) (mem_idx hoi')
        simp only [hc, Bool.false_or] at hv
        split at hv
        ·rename_i d' v x hdst' hev
         rw [hdst] at hdst'
         cases hdst'
         have hve := eqV_eq hv
         have hk : kd oi.op = .pure ∨ kd oi.op = .read := by
          unfold kdFree at s2
          split at s2
          ·rename_i q; exact .inl q
          ·rename_i q; exact .inr q
          ·cases s2
         have hrel := only_rel (cts := cts) I.sz (dr_look hf I s3 haft)
         obtain ⟨_, val, hrun, hcon⟩ := evOp_same F hr1 (evR_of hr1 hrel) hk hev
         rw [← only_eval (ops := ops) a oi (not_select hev)] at hrun
         have hset : ∀ j, (listed.setIfInBounds i true).getD j false = if j = i then true else listed.getD j false := fun j => listed_set (by omega)
         refine wpOpIn_of hoi hg (wpIn_of_run hev hrun (hnx _ _ ⟨?_, ?_, fun j hj => ?_, rfl, fun j oj dj hj hdj hlj => ?_, fun t htt => ?_⟩))
         ·rw [hdst]; exact I.df
         ·rw [hdst, put_size]; exact I.sz
         ·rw [hset, if_neg]
          ·exact I.no j hj
          ·intro hh
           subst hh
           rw [hc] at hj
           cases hj
         ·rw [hdst, put_get, I.sz]
          by_cases ej : j = i
          ·subst ej
           rw [hoi'] at hj
           cases hj
           rw [hdst] at hdj
           cases hdj
           rw [if_pos ⟨rfl, blt_lt s1⟩, ← hve]
           exact hcon
          ·rw [hset, if_neg ej] at hlj
           have hd2 := List.all_eq_true.1 s4 (oj, j) (mem_idx hj)
           have hnd : dep.contains j = false := by
            cases hcc : dep.contains j with
            | false => rfl
            | true => rw [I.no j hcc] at hlj; cases hlj
           have hne : Nat.beq i j = false := by
            cases hcc : Nat.beq i j with
            | false => rfl
            | true => exact absurd (Nat.eq_of_beq_eq_true hcc).symm ej
           simp only [hnd, hne, Bool.false_or] at hd2
           unfold dstIs at hd2
           rw [hdj] at hd2
           have hdd : ¬ d = dj := by
            intro hh
            subst hh
            simp at hd2
           rw [if_neg (fun hh => hdd (Option.some.inj hh.1))]
           exact I.done j oj dj hj hdj hlj
         ·have h1 := htt i oi hoi' (by rw [hset, if_pos rfl])
          unfold dstIs at h1
          rw [hdst] at h1
          have hdt : ¬ d = t := by
           intro hh
           subst hh
           simp at h1
          rw [hdst, put_get, if_neg (fun hh => hdt (Option.some.inj hh.1))]
          refine I.rest t (fun j oj hj hlj => htt j oj hj ?_)
          rw [hset]
          by_cases ej : j = i
          ·rw [if_pos ej]
          ·rw [if_neg ej]; exact hlj
        ·cases hv
       ·cases hsh
     ·intro listed a w1 hs hall I
      have hk : k < ops.size := by
       have := (List.getElem?_eq_some_iff.1 ho).1
       simpa using this
      have := hall k hk
      rw [I.no k b5] at this
      cases this
    ·cases e0
  ·cases e0
 ·cases e0
theorem panDr_dn (F : Fits K P) : DnOk K P T (panDr K) := fun _ _ _ _ _ _ _ _ _ hN e => panDr_ok F hN e
end
end Go.Ev
/- Calls that give true, of arguments that lie in memory. -/
namespace Go.Ev
open Go.RowKit
section
variable {K : Cfg} {P : Program} {f : FuncId} {args : List W} {h h' : H}
theorem callsOk_args {ρ : Ren} {W : World} (hr : Rep K ρ h W) (hd : Dom ρ h.next) (hro : ∀ n o, h.get n = some o → o.ro = true) (c : CallOk K P f args h (.w (.c (.bool true))) h') {vals : List Value} (ha : All2 (ConW ρ) args vals) :
  Calls P f vals.toArray W fun e W' => e = .returned (.bool true) ∧ Below W.heap.size W W' := by
 have := c.2 ρ W vals none 0 hr hd ha
 refine (callsIn_wide.1 (show CallsIn Fence.wide 0 P f vals.toArray W _ from this)).mono ?_
 rintro e W' ⟨ρ', val, rfl, aft, hv⟩
 have e : val = .bool true := hv
 subst e
 refine ⟨rfl, aft.fr.os, aft.fr.tape, aft.fr.output, aft.fr.size, fun k hk => aft.fr.keep k hk ?_⟩
 rintro ⟨m, o, l, ho, hr0, _⟩
 rw [hro m o ho] at hr0
 cases hr0
end
theorem cells_get {w : World} {base : Nat} {a : Addr} {n : Nat} {cs : List Value} (h : w.cells? base a n = some cs) : cs.length = n ∧ ∀ i, i < n → w.cell? (a.add i) = cs[i]? := by
 unfold World.cells? at h
 split at h
 ·have hl : cs.length = n := by simpa using mapM_some_length h
  refine ⟨hl, fun i hi => ?_⟩
  exact mapM_some_get h i i (by simp [hi])
 ·cases h
end Go.Ev
/- What the cells of an argument are, told by its type: numbers, strings, truths, row by row. -/
namespace Go.Ev
open Go.ChangeShapes Go.WideShapes
inductive Kt where
 | int (k : IntKind)
 | bool
 | str
def Kt.has : Kt → Value → Prop
 | .int k, v => ∃ n, v = .int k n ∧ (Lit.int k n).wf = true
 | .bool, v => ∃ b, v = .bool b
 | .str, v => ∃ s : ByteArray, v = .string s
def repK (l : List Kt) : Nat → List Kt
 | 0 => []
 | m + 1 => l ++ repK l m
def kindsF (P : Program) (k : TypeId → Option (List Kt)) : Nat → List Field → Option (List Kt)
 | _, [] => some []
 | off, f :: fs => match k f.type with
  | none => none
  | some l => bif Nat.beq f.offset off && Nat.beq l.length (P.cellsOf f.type) then (match kindsF P k (off + l.length) fs with
   | none => none
   | some r => some (l ++ r)) else none
def sized (n : Nat) : Option (List Kt) → Option (List Kt)
 | some l => bif Nat.beq l.length n then some l else none
 | none => none
def kindsA (P : Program) (m : Nat) (e : TypeId) : Option (List Kt) → Option (List Kt)
 | some l => bif Nat.beq l.length (P.cellsOf e) then some (repK l m) else none
 | none => none
def kinds (P : Program) : Nat → TypeId → Option (List Kt)
 | 0, _ => none
 | n + 1, t => match P.underlying t with
  | some .bool => some [.bool]
  | some (.int k) => some [.int k]
  | some .string => some [.str]
  | some (.struct fs) => sized (P.cellsOf t) (kindsF P (kinds P n) 0 fs.toList)
  | some (.array m e) => sized (P.cellsOf t) (kindsA P m e (kinds P n e))
  | _ => none
theorem sized_some {n : Nat} {o : Option (List Kt)} {r : List Kt} (h : sized n o = some r) : o = some r ∧ r.length = n := by
 unfold sized at h
 split at h
 ·rename_i l
  cases hb : Nat.beq l.length n with
  | false => rw [hb] at h; cases h
  | true => rw [hb] at h; cases h; exact ⟨rfl, Nat.eq_of_beq_eq_true hb⟩
 ·cases h
section
variable {P : Program} {cs : List Value}
theorem kindsF_all {k : TypeId → Option (List Kt)} : ∀ {fs : List Field} {off : Nat} {r : List Kt}, kindsF P k off fs = some r → (∀ f ∈ fs, ∀ l, k f.type = some l → All2 Kt.has l ((cs.drop f.offset).take (P.cellsOf f.type))) → cs.length = off + r.length → All2 Kt.has r (cs.drop off)
 | [], off, r, h, _, hl => by
  cases h
  rw [List.drop_of_length_le (by simp at hl; omega)]
  trivial
 | f :: fs, off, r, h, hf, hl => by
  unfold kindsF at h
  split at h
  ·cases h
  ·rename_i l hk
   cases hb : (Nat.beq f.offset off && Nat.beq l.length (P.cellsOf f.type)) with
   | false => rw [hb] at h; cases h
   | true =>
    rw [hb] at h
    simp only [cond_true] at h
    simp only [Bool.and_eq_true] at hb
    have e1 := Nat.eq_of_beq_eq_true hb.1
    have e2 := Nat.eq_of_beq_eq_true hb.2
    split at h
    ·cases h
    ·rename_i r' hr
     cases h
     have h1 := hf f List.mem_cons_self l hk
     rw [e1, ← e2] at h1
     have h2 := kindsF_all hr (fun g hg => hf g (List.mem_cons_of_mem _ hg)) (by rw [hl, List.length_append]; omega)
     have e3 : cs.drop off = (cs.drop off).take l.length ++ cs.drop (off + l.length) := by
      rw [← List.drop_drop, List.take_append_drop]
     rw [e3]
     exact h1.append h2
theorem repK_all {l : List Kt} : ∀ (m off : Nat), (∀ i, i < m → All2 Kt.has l ((cs.drop (off + i * l.length)).take l.length)) → cs.length = off + (repK l m).length → All2 Kt.has (repK l m) (cs.drop off)
 | 0, off, _, hl => by
  rw [List.drop_of_length_le (by simp [repK] at hl; omega)]
  trivial
 | m + 1, off, h, hl => by
  have h1 := h 0 (by omega)
  rw [Nat.zero_mul, Nat.add_zero] at h1
  have h2 := repK_all (l := l) m (off + l.length) (fun i hi => by
   have := h (i + 1) (by omega)
   rwa [show off + (i + 1) * l.length = off + l.length + i * l.length by rw [Nat.add_mul]; omega] at this) (by rw [hl, repK, List.length_append]; omega)
  have e3 : cs.drop off = (cs.drop off).take l.length ++ cs.drop (off + l.length) := by
   rw [← List.drop_drop, List.take_append_drop]
  rw [e3]
  exact h1.append h2
theorem kinds_of {H : Type} {enc : TypeId × Value → H} {w : World} {base : Nat} {spare : Nat → Bool} {held : Bool} : ∀ (n : Nat) {t : TypeId} {ks : List Kt} {fuel : Nat} {cs : List Value} {x : DataW H × List MemPlace}, kinds P n t = some ks → DataW.trod enc P w base spare held fuel t cs = some x → All2 Kt.has ks cs
 | 0, t, ks, fuel, cs, x, h, _ => by cases h
 | n + 1, t, ks, fuel, cs, x, h, hx => by
  unfold kinds at h
  split at h
  ·rename_i ht
   cases h
   obtain ⟨b, rfl, _⟩ := DataW.trod_bool ht hx
   exact ⟨⟨b, rfl⟩, trivial⟩
  ·rename_i k ht
   cases h
   obtain ⟨b, rfl, _, w⟩ := DataW.trod_int ht hx
   exact ⟨⟨b, rfl, w⟩, trivial⟩
  ·rename_i ht
   cases h
   obtain ⟨b, rfl, _⟩ := DataW.trod_string ht hx
   exact ⟨⟨b, rfl⟩, trivial⟩
  ·rename_i fs ht
   obtain ⟨h1, h2⟩ := sized_some h
   obtain ⟨xs, m, _, _, hl, hlen, hf⟩ := DataW.trod_struct ht hx
   refine kindsF_all (cs := cs) (off := 0) h1 (fun f hm l hk => ?_) (by omega)
   obtain ⟨i, hi⟩ := List.getElem?_of_mem hm
   have hi' : fs[i]? = some f := by rw [← Array.getElem?_toList]; exact hi
   have hlt : i < xs.length := by
    rw [hlen]
    rcases Nat.lt_or_ge i fs.size with h3 | h3
    ·exact h3
    ·rw [Array.getElem?_eq_none h3] at hi'; cases hi'
   have h4 := hf i f hi'
   rw [List.getElem?_eq_getElem hlt] at h4
   exact kinds_of n hk h4
  ·rename_i m e ht
   obtain ⟨h1, h2⟩ := sized_some h
   obtain ⟨xs, q, _, _, hl, hlen, hf⟩ := DataW.trod_array ht hx
   unfold kindsA at h1
   split at h1
   ·rename_i l hk
    cases hb : Nat.beq l.length (P.cellsOf e) with
    | false => rw [hb] at h1; cases h1
    | true =>
     rw [hb] at h1
     cases h1
     have e2 := Nat.eq_of_beq_eq_true hb
     have := repK_all (cs := cs) (l := l) m 0 (fun i hi => ?_) (by omega)
     ·exact this
     ·have h4 := hf i hi
      rw [List.getElem?_eq_getElem (by omega)] at h4
      rw [Nat.zero_add, e2]
      exact kinds_of n hk h4
   ·cases h1
  ·cases h
end
end Go.Ev
