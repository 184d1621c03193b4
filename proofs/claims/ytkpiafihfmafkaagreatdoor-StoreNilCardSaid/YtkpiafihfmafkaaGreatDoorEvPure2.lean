/- Operations that touch no memory. -/
import Derived.Test.YtkpiafihfmafkaaGreatDoorEvEq
namespace Go.Ev
open Go.RowKit

section
variable {K : Cfg} {P : Program} {ρ : Ren} {h : H} {w : World} {ts : Tmps} {e : Operand → Value} {o : Oper} {v : V} {h' : H}

theorem eqGuard_c {op : BinOp} {t : TypeId} {x y : Operand} {a b : Value} {c : C} (hx : Con ρ c a) : (eqGuard op t x y a b).run P w = .ok () w := by
  cases c <;> simp only [Con, ConP] at hx
  case ptr => obtain ⟨_, _, rfl⟩ := hx; cases op <;> simp [eqGuard]
  case slice => obtain ⟨_, _, _, _, rfl, _⟩ := hx; cases op <;> simp [eqGuard]
  case map => obtain ⟨_, _, rfl⟩ := hx; cases op <;> simp [eqGuard]
  case fn => obtain ⟨_, _, rfl, _⟩ := hx; cases op <;> simp [eqGuard]
  case yield => obtain ⟨_, _, rfl⟩ := hx; cases op <;> simp [eqGuard]
  all_goals (subst hx; cases op <;> simp [eqGuard])

theorem good_binOp (F : Fits K P) (hr : Rep K ρ h w) (he : EvR K ρ ts e) {op : BinOp} {t u : TypeId} {x y : Operand} (hop : o.op = .binOp op t x y u) (hv : outC h (binop K op t (evalW K ts x) (evalW K ts y)) = some (v, h')) : Same ρ h w v h' ((execOp e o).run P w) := by
  obtain ⟨c, hq, rfl, rfl⟩ := outC_some hv
  clear hv
  cases hx : evalW K ts x with
  | none => rw [hx] at hq; simp [binop] at hq
  | some a =>
    cases hy : evalW K ts y with
    | none => rw [hx, hy] at hq; cases a with | c a => cases a <;> simp [binop] at hq | g a => simp [binop] at hq
    | some b =>
      have ca := he.w hx
      have cb := he.w hy
      rw [hx, hy] at hq
      suffices hs : ∃ val, Con ρ c val ∧ (do eqGuard op t x y (e x) (e y); binOp op t (e x) (e y) : Sem Value).run P w = .ok val w by
        obtain ⟨val, hc, hrun⟩ := hs
        refine Same.of hr (val := val) ?_ hc
        simp only [execOp, hop]
        rw [Sem.run_bind, hrun]
        rfl
      unfold binop at hq
      split at hq
      · rename_i k1 n1 k2 n2 e1 e2
        cases e1; cases e2
        have hg := eqGuard_c (P := P) (w := w) (op := op) (t := t) (x := x) (y := y) (b := e y) (ρ := ρ) (c := .int k1 n1) ca
        have h1 : e x = .int k1 n1 := ca
        have h2 : e y = .int k2 n2 := cb
        obtain ⟨val, hc, hrun⟩ := binII_run (P := P) (w := w) (t := t) hq
        refine ⟨val, con_none hc ρ, ?_⟩
        rw [Sem.run_bind, hg, Result.andThen_ok, h1, h2, hrun]
      · rename_i n1 n2 e1 e2
        cases e1; cases e2
        have hg := eqGuard_c (P := P) (w := w) (op := op) (t := t) (x := x) (y := y) (b := e y) (ρ := ρ) (c := .str n1) ca
        have h1 : e x = .string ⟨⟨n1⟩⟩ := ca
        have h2 : e y = .string ⟨⟨n2⟩⟩ := cb
        obtain ⟨val, hc, hrun⟩ := binS_run (P := P) (w := w) (t := t) hq
        refine ⟨val, con_none hc ρ, ?_⟩
        rw [Sem.run_bind, hg, Result.andThen_ok, h1, h2, hrun]
      · rename_i p q n1 n2 e1 e2
        cases e1; cases e2
        have hg := eqGuard_c (P := P) (w := w) (op := op) (t := t) (x := x) (y := y) (b := e y) (ρ := ρ) (c := p) ca
        have key : ∀ r, eqCT p q (K.types.get t) = some r → (binOp .eql t (e x) (e y)).run P w = .ok (.bool r) w ∧ (binOp .neq t (e x) (e y)).run P w = .ok (.bool !r) w := by
          intro r hr'
          unfold eqCT at hr'
          split at hr'
          · rename_i ti hti
            have k1 := eqC_run (w := w) (F.und t ti hti) ca cb hr'
            have hca : Con ρ p (e x) := ca
            have hcb : Con ρ q (e y) := cb
            generalize e x = a' at hca k1
            generalize e y = b' at hcb k1
            unfold eqC at hr'
            split at hr' <;> simp only [Option.some.injEq, reduceCtorEq] at hr' <;> simp only [Con, ConP] at hca hcb
            case h_3 => obtain ⟨_, _, rfl⟩ := hcb; subst hca; simp [binOp, k1]
            case h_4 => obtain ⟨_, _, rfl⟩ := hca; subst hcb; simp [binOp, k1]
            case h_6 => obtain ⟨_, _, _, _, rfl, _⟩ := hcb; subst hca; simp [binOp, k1]
            case h_7 => obtain ⟨_, _, _, _, rfl, _⟩ := hca; subst hcb; simp [binOp, k1]
            case h_9 => obtain ⟨_, _, rfl⟩ := hcb; subst hca; simp [binOp, k1]
            case h_10 => obtain ⟨_, _, rfl⟩ := hca; subst hcb; simp [binOp, k1]
            case h_12 => obtain ⟨_, _, rfl, _⟩ := hcb; subst hca; simp [binOp, k1]
            case h_13 => obtain ⟨_, _, rfl, _⟩ := hca; subst hcb; simp [binOp, k1]
            all_goals (subst hca; subst hcb; simp [binOp, k1])
          · cases hr'
        unfold binC at hq
        split at hq
        · unfold isB at hq
          split at hq
          · rename_i r hr'
            cases hq
            obtain ⟨k1, k2⟩ := key r hr'
            refine ⟨_, rfl, ?_⟩
            rw [Sem.run_bind, hg, Result.andThen_ok, k1]
          · cases hq
        · unfold notB at hq
          split at hq
          · rename_i r hr'
            cases hq
            obtain ⟨k1, k2⟩ := key r hr'
            refine ⟨_, rfl, ?_⟩
            rw [Sem.run_bind, hg, Result.andThen_ok, k2]
          · cases hq
        · cases hq
      · rename_i la lb e1 e2
        cases e1; cases e2
        obtain ⟨xs, hxs, _⟩ := id ca
        obtain ⟨ys, hys, _⟩ := id cb
        have key : ∀ r, eqT K 20 t (.g la) (.g lb) = some r → (Op.equal t (e x) (e y)).run P w = .ok r w ∧ (eqGuard op t x y (e x) (e y)).run P w = .ok () w := by
          intro r hr'
          refine ⟨eqT_run F 20 t _ _ r hr' _ _ ca cb 10000 (by decide), ?_⟩
          obtain ⟨ti, hti, hp⟩ : ∃ ti, K.types.get t = some ti ∧ ti.plain = true := by
            rw [eqT] at hr'
            split at hr'
            · cases hr'
            · rename_i ti hti
              refine ⟨ti, hti, ?_⟩
              cases hp : ti.plain with
              | true => rfl
              | false => rw [hp] at hr'; simp at hr'
          have hg := (F.plain t ti hti hp).2
          rw [hxs, hys]
          cases op <;> simp [eqGuard, run_program, hg]
        unfold binG at hq
        split at hq
        · unfold isB at hq
          split at hq
          · rename_i r hr'
            cases hq
            obtain ⟨k1, k2⟩ := key r hr'
            refine ⟨_, rfl, ?_⟩
            rw [Sem.run_bind, k2, Result.andThen_ok]
            rw [hxs, hys] at k1 ⊢
            simp [binOp, k1]
          · cases hq
        · unfold notB at hq
          split at hq
          · rename_i r hr'
            cases hq
            obtain ⟨k1, k2⟩ := key r hr'
            refine ⟨_, rfl, ?_⟩
            rw [Sem.run_bind, k2, Result.andThen_ok]
            rw [hxs, hys] at k1 ⊢
            simp [binOp, k1]
          · cases hq
        · cases hq
      · cases hq

theorem good_unOp (hr : Rep K ρ h w) (he : EvR K ρ ts e) {op : UnOp} {t : TypeId} {x : Operand} (hop : o.op = .unOp op t x) (hv : outC h (unop op (evalC K ts x)) = some (v, h')) : Same ρ h w v h' ((execOp e o).run P w) := by
  obtain ⟨c, hq, rfl, rfl⟩ := outC_some hv
  clear hv
  unfold unop at hq
  split at hq
  · rename_i k n hx
    have hb : e x = .int k n := he.c hx
    split at hq
    · cases hq
      exact Same.of hr (val := .int k (k.wrap (0 - n))) (by simp [execOp, hop, hb, Op.unary, Op.intArith]) rfl
    · cases hq
      refine Same.of hr (val := .int k (k.wrap ((Nat.xor ((if k.signed then -1 else k.max) % 2 ^ k.bits).toNat (n % 2 ^ k.bits).toNat : Nat)))) ?_ rfl
      simp [execOp, hop, hb, Op.unary, Op.intBits, BitVec.toNat_xor]
    · cases hq
  · rename_i b hx
    have hb : e x = .bool b := he.c hx
    split at hq
    · cases hq
      exact Same.of hr (val := .bool !b) (by simp [execOp, hop, hb, Op.unary]) rfl
    · cases hq
  · cases hq

theorem fieldOf_some {t : TypeId} {f off : Nat} {ft : TI} (h : fieldOf K t f = some (off, ft)) : ∃ ti fs fd, K.types.get t = some ti ∧ ti.desc = .struct fs ∧ fs[f]? = some fd ∧ fd.offset = off ∧ K.types.get fd.type = some ft := by
  unfold fieldOf at h
  split at h
  · rename_i ti hti
    split at h
    · rename_i fs hfs
      unfold fieldIn at h
      split at h
      · cases h
      · rename_i fd hfd
        split at h
        · cases h
        · rename_i ft' hft
          cases h
          exact ⟨ti, fs, fd, hti, hfs, by simpa using hfd, rfl, hft⟩
    · cases h
  · cases h

theorem add_at (l : Loc) (off k : Nat) : (l.at off).add k = l.at (off + k) := by
  unfold Addr.add Loc.at
  split
  · rename_i h; subst h; rfl
  · simp [Nat.add_assoc]

theorem good_fieldAddr (F : Fits K P) (hr : Rep K ρ h w) (he : EvR K ρ ts e) {t : TypeId} {x : Operand} {f : Nat} (hop : o.op = .fieldAddr t x f) (hv : outC h (opFieldAddr (evalC K ts x) (fieldOf K t f)) = some (v, h')) : Same ρ h w v h' ((execOp e o).run P w) := by
  obtain ⟨c, hq, rfl, rfl⟩ := outC_some hv
  clear hv
  unfold opFieldAddr at hq
  split at hq
  · rename_i n off o' ft hx hf
    obtain ⟨ti, fs, fd, hti, hd, hfd, hoff, hft⟩ := fieldOf_some hf
    obtain ⟨l, hl, hp⟩ := he.c hx
    cases hb : Nat.beq ft.size 0 with
    | true => rw [hb] at hq; cases hq
    | false =>
      rw [hb] at hq
      cases hq
      have hne : ¬ ft.size = 0 := fun hz => by rw [hz] at hb; cases hb
      have hu := F.und t ti hti
      rw [hd] at hu
      refine Same.of hr (val := .pointer (some (l.at (off + o')))) ?_ ⟨l, hl, rfl⟩
      simp only [execOp, hop, hp]
      simp [Instr.fieldAt, run_underlying hu w, hfd, Instr.sureAddr, fieldPlace, sizeOf_run F hft w, hne, hoff, add_at]
  · cases hq

theorem good_field (F : Fits K P) (hr : Rep K ρ h w) (he : EvR K ρ ts e) {t : TypeId} {x : Operand} {f : Nat} (hop : o.op = .field t x f) (hv : outW h (opField (evalW K ts x) (fieldOf K t f)) = some (v, h')) : Same ρ h w v h' ((execOp e o).run P w) := by
  obtain ⟨c, hq, rfl, rfl⟩ := outW_some hv
  clear hv
  unfold opField at hq
  split at hq
  · rename_i l o' ft hx hf
    obtain ⟨ti, fs, fd, hti, hd, hfd, hoff, hft⟩ := fieldOf_some hf
    obtain ⟨xs, hxs, ha⟩ := he.w hx
    have hu := F.und t ti hti
    rw [hd] at hu
    obtain ⟨u, hu1, hu2⟩ := part_run F hft ha hq w
    refine Same.of hr (val := u) ?_ hu2
    rw [← hoff] at hu1
    simp [execOp, hop, hxs, Instr.field, run_underlying hu w, hfd, asAgg, hu1]
  · cases hq

end
end Go.Ev
