/- nums.Get32 and mapping.pointer, on the evaluator's level. -/
import Derived.Test.YtdnkofpkkebefaaGreatDoorFine
set_option linter.unusedSimpArgs false
set_option linter.unusedVariables false
set_option linter.unusedSectionVars false
set_option maxRecDepth 100000
namespace Go.Proofs.YtdnkofpkkebefaaGreatDoor
open Go.Ev
theorem ty3 : K.types.get 3 = some ti3 := by kernel_rfl
theorem sz3 : ti3.size = 1 := by rfl
theorem ag3 : ti3.agg = false := by rfl
theorem de3 : ti3.desc = (.int .i64) := by rfl
theorem ze3 : ti3.zero = (.c (.int .i64 0)) := by rfl
theorem by3 : ti3.bytes = 8 := by rfl
theorem ke3 (k : IntKind) (n : Int) : keyT K 20 3 (.c (.int k n)) = true := by kernel_rfl
theorem ty4 : K.types.get 4 = some ti4 := by kernel_rfl
theorem sz4 : ti4.size = 1 := by rfl
theorem ag4 : ti4.agg = false := by rfl
theorem de4 : ti4.desc = .bool := by rfl
theorem ze4 : ti4.zero = (.c (.bool false)) := by rfl
theorem by4 : ti4.bytes = 1 := by rfl
theorem ty5 : K.types.get 5 = some ti5 := by kernel_rfl
theorem sz5 : ti5.size = 1 := by rfl
theorem ag5 : ti5.agg = false := by rfl
theorem de5 : ti5.desc = (.int .u8) := by rfl
theorem ze5 : ti5.zero = (.c (.int .u8 0)) := by rfl
theorem by5 : ti5.bytes = 1 := by rfl
theorem ke5 (k : IntKind) (n : Int) : keyT K 20 5 (.c (.int k n)) = true := by kernel_rfl
theorem ty31 : K.types.get 31 = some ti31 := by kernel_rfl
theorem sz31 : ti31.size = 1 := by rfl
theorem ag31 : ti31.agg = false := by rfl
theorem de31 : ti31.desc = (.slice 5) := by rfl
theorem ze31 : ti31.zero = (.c (.snil)) := by rfl
theorem by31 : ti31.bytes = 24 := by rfl
theorem el31 : elemTI K 31 = some ti5 := by kernel_rfl
theorem ty75 : K.types.get 75 = some ti75 := by kernel_rfl
theorem sz75 : ti75.size = 1 := by rfl
theorem ag75 : ti75.agg = false := by rfl
theorem de75 : ti75.desc = (.int .u32) := by rfl
theorem ze75 : ti75.zero = (.c (.int .u32 0)) := by rfl
theorem by75 : ti75.bytes = 4 := by rfl
theorem ke75 (k : IntKind) (n : Int) : keyT K 20 75 (.c (.int k n)) = true := by kernel_rfl
theorem ty81 : K.types.get 81 = some ti81 := by kernel_rfl
theorem sz81 : ti81.size = 256 := by rfl
theorem ag81 : ti81.agg = true := by rfl
theorem de81 : ti81.desc = (.array 256 5) := by rfl
theorem ze81 : ti81.zero = (.g ((List.replicate 256 (.int .u8 0)))) := by rfl
theorem by81 : ti81.bytes = 256 := by rfl
theorem eq81 (a b : List C) : eqT K 20 81 (.g a) (.g b) = (bif true && Nat.beq a.length 256 && Nat.beq b.length 256 then eqInts a b else none) := by kernel_rfl
attribute [go_sem] ty3 sz3 ag3 de3 ze3 by3 ke3 ty4 sz4 ag4 de4 ze4 by4 ty5 sz5 ag5 de5 ze5 by5 ke5 ty31 sz31 ag31 de31 ze31 by31 el31 ty75 sz75 ag75 de75 ze75 by75 ke75 ty81 sz81 ag81 de81 ze81 by81 eq81
noncomputable def q233 (p : List Nat) : Code := piece p (bodyOf Tryz.f233)
theorem rs348 : Tryz.f348.results.toList = [.tmp 6] := rfl
theorem rs233 : Tryz.f233.results.toList = [.tmp 6, .tmp 7] := rfl
theorem rs135 : Tryz.f135.results.toList = [.tmp 4, .tmp 5] := rfl
theorem rs294 : Tryz.f294.results.toList = [.tmp 4] := rfl
attribute [go_sem] rs348 rs233 rs135 rs294
def leN : List Nat → Nat
 | [] => 0
 | b :: l => b + 256 * leN l
theorem leN_lt : ∀ {l : List Nat}, (∀ b ∈ l, b < 256) → leN l < 256 ^ l.length
 | [], _ => by simp [leN]
 | b :: l, h => by
  have h1 := h b (by simp)
  have h2 := leN_lt (l := l) (fun x hx => h x (by simp [hx]))
  simp only [leN, List.length_cons, Nat.pow_succ]
  omega
theorem shl8n {v : Nat} (h : v < 16777216) : opShl .u32 (v : Int) 8 = some (.int .u32 ((v * 256 : Nat) : Int)) := by
 unfold opShl
 have e : min (8 : Int).toNat IntKind.u32.bits = 8 := rfl
 rw [e]
 show some (wrapC .u32 ((v : Int) * 256)) = _
 rw [wrapU32I (by omega)]
 rfl
theorem or8n {v b : Nat} (h : v < 16777216) (hb : b < 256) : opBit .u32 Nat.lor ((v * 256 : Nat) : Int) (b : Int) = .int .u32 ((b + 256 * v : Nat) : Int) := by
 have e : Nat.lor (v * 256) b = b + 256 * v := by
  have := Nat.two_pow_add_eq_or_of_lt (i := 8) hb v
  rw [show (2 : Nat) ^ 8 * v = v * 256 by omega] at this
  show v * 256 ||| b = _
  omega
 rw [bitU32 (by omega) (by omega) (by rw [e]; omega), e]
section
variable (Hh : Hearts K Tryz.prog)
include Hh
theorem withinOk (h : Go.Ev.H) (n at' size : Nat) (hn : n < 4294967296) (ha : at' < 4294967296) (hs : size ≤ n) (hf : at' + size ≤ n) : CallOk K Tryz.prog 348 [.c (.int .i64 n), .c (.int .i64 at'), .c (.int .i64 size)] h (.w (.c (.bool true))) h := by
 have e1 : ((n : Int) - (size : Int)) = ((n - size : Nat) : Int) := by omega
 refine fnG Hh Tryz.f348 ?_
 have Jf := @e1
 iterate 5 (first | apply Goes.seq | apply Goes.ret | refine runO Hh E0_sound autBarJ ?_)
 exact autBarJ
omit Hh in
theorem loadIn_row {off : Nat} {o : O} {c : Go.Ev.C} (e : loadIn ti5 off (some o) = some (.c c)) : ∃ sz els ro, o = .row sz els ro ∧ read1 sz els off = some c := by
 cases o with
 | row sz els ro =>
  refine ⟨sz, els, ro, rfl, ?_⟩
  have e2 : (match read1 sz els off with | some c => some (W.c c) | none => none) = some (W.c c) := e
  cases hr : read1 sz els off with
  | none => rw [hr] at e2; cases e2
  | some c2 => rw [hr] at e2; cases e2; rfl
 | _ => cases e
theorem get0 (h : Go.Ev.H) (n off len at' : Nat) (o : O) (ho : h.get n = some o) (hlen : len < 4294967296) (hat : at' + 4 ≤ len) (bs : List Nat) (h4 : bs.length = 4) (hb : ∀ j (b : Nat), bs[j]? = some b → b < 256 ∧ loadIn ti5 (off + (at' + j)) (some o) = some (.c (.int .u8 (b : Int)))) : ∀ (k : Nat) (ts : Tmps), k ≤ 4 → evalT ts 0 = .w (.c (.slice n off len 1)) → evalT ts 1 = .w (.c (.int .i64 at')) → evalT ts 8 = .w (.c (.int .u32 ((leN (bs.drop k) : Nat) : Int))) → evalT ts 9 = .w (.c (.int .i64 ((k : Int) - 1))) →
  Goes K Tryz.prog 33 none (q233 [1,1,1,0,1,2]) [] ts h fun x ds' ts' h' => x = .exit 0 ∧ ds' = [] ∧ h' = h ∧ evalT ts' 8 = .w (.c (.int .u32 ((leN bs : Nat) : Int))) := by
 intro k
 induction k with
 | zero =>
  intro ts hk h0 h1 h8 h9
  have Jf := @h9
  iterate 6 (first | apply Goes.seq | apply Goes.exit | apply Goes.loop | refine Goes.condV autBarJ ?_ | refine runO Hh E0_sound autBarJ ?_)
  refine ⟨rfl, rfl, rfl, ?_⟩
  rw [List.drop_zero] at h8
  simp (decide := true) only [evalT_set, reduceIte, h8]
 | succ k ih =>
  intro ts hk h0 h1 h8 h9
  have e9 : (((k + 1 : Nat) : Int) - 1) = (k : Int) := by omega
  rw [e9] at h9
  have hkl : k < bs.length := by omega
  obtain ⟨b, hbk⟩ : ∃ b, bs[k]? = some b := ⟨_, List.getElem?_eq_getElem hkl⟩
  obtain ⟨b1, ld⟩ := hb k b hbk
  obtain ⟨sz, els, ro, rfl, ld2⟩ := loadIn_row ld
  have hd : bs.drop k = b :: bs.drop (k + 1) := by
   rw [List.drop_eq_getElem_cons hkl]
   have := List.getElem?_eq_getElem hkl
   rw [this] at hbk
   cases hbk
   rfl
  have hv : leN (bs.drop (k + 1)) < 16777216 := by
   have h5 := leN_lt (l := bs.drop (k + 1)) (fun x hx => by
    obtain ⟨j, hj⟩ := List.getElem?_of_mem (List.mem_of_mem_drop hx)
    exact (hb j x hj).1)
   have h6 : (bs.drop (k + 1)).length ≤ 3 := by rw [List.length_drop]; omega
   exact Nat.lt_of_lt_of_le h5 (Nat.pow_le_pow_right (by omega) h6)
  obtain ⟨v, hvv⟩ : ∃ v, leN (bs.drop (k + 1)) = v := ⟨_, rfl⟩
  rw [hvv] at h8 hv
  have s1 := shl8n hv
  have o1 := or8n hv b1
  have w1 : (at' : Int) + (k : Int) = ((at' + k : Nat) : Int) := rfl
  have Jf := andI6 @h0 @h1 @h8 @h9 @s1 (andI9 @o1 @w1 @ho @ld2 @tyBytes @tyByte @dBytes @sByte @aByte)
  iterate 10 (first | apply Goes.seq | apply Goes.skip | apply Goes.block | apply Goes.loop | refine Goes.condV autBarJ ?_ | refine runO Hh E0_sound autBarJ ?_)
  show Goes K Tryz.prog 33 none (q233 [1,1,1,0,1,2]) _ _ _ _
  refine ih _ (by omega) ?_ ?_ ?_ ?_
  ·simp (decide := true) only [evalT_set, reduceIte, h0]
  ·simp (decide := true) only [evalT_set, reduceIte, h1]
  ·simp (decide := true) only [evalT_set, reduceIte]
   rw [hd, leN, hvv]
  ·simp (decide := true) only [evalT_set, reduceIte]
theorem getOk (h : Go.Ev.H) (n off len at' : Nat) (o : O) (ho : h.get n = some o) (hlen : len < 4294967296) (hat : at' + 4 ≤ len) (bs : List Nat) (h4 : bs.length = 4) (hb : ∀ j (b : Nat), bs[j]? = some b → b < 256 ∧ loadIn ti5 (off + (at' + j)) (some o) = some (.c (.int .u8 (b : Int)))) : CallOk K Tryz.prog 233 [.c (.slice n off len 1), .c (.int .i64 at'), .c (.int .i64 4)] h (.tup [.c (.int .u32 ((leN bs : Nat) : Int)), .c (.bool true)]) h := by
 have c1 := withinOk Hh h len at' 4 hlen (by omega) (by omega) hat
 rw [show ((4 : Nat) : Int) = 4 from rfl] at c1
 have fl : lenFits K 31 (.c (.slice n off len 1)) = true := by unfold lenFits; rw [tyBytes]; rfl
 refine fnG Hh Tryz.f233 ?_
 have Jf := @fl
 iterate 4 (first | apply Goes.seq | refine runO Hh E0_sound autBatJ ?_)
 iterate 9 (first | apply Goes.seq | apply Goes.skip | apply Goes.block | refine Goes.condV autBatJ ?_ | refine runO Hh (E1_sound E0_sound c1) autBatJ ?_)
 refine (get0 Hh h n off len at' o ho hlen hat bs h4 hb 4 _ (by omega) ?_ ?_ ?_ ?_).mono ?_
 ·simp (decide := true) only [evalT_set, reduceIte, evalT_args, List.getElem?_cons_zero]
 ·simp (decide := true) only [evalT_set, reduceIte, evalT_args, List.getElem?_cons_succ, List.getElem?_cons_zero]
 ·simp (decide := true) only [evalT_set, reduceIte, List.drop_of_length_le (Nat.le_of_eq h4), leN] <;> rfl
 ·simp (decide := true) only [evalT_set, reduceIte] <;> rfl
 rintro x ds' ts' h' ⟨rfl, rfl, rfl, f8⟩
 have Jf := andI2 Jf @f8
 iterate 3 (first | apply Goes.seq | apply Goes.ret | refine runO Hh E0_sound autBatJ ?_)
 exact autBatJ
theorem get32Ok (h : Go.Ev.H) (n off len at' : Nat) (o : O) (ho : h.get n = some o) (hlen : len < 4294967296) (hat : at' + 4 ≤ len) (bs : List Nat) (h4 : bs.length = 4) (hb : ∀ j (b : Nat), bs[j]? = some b → b < 256 ∧ loadIn ti5 (off + (at' + j)) (some o) = some (.c (.int .u8 (b : Int)))) : CallOk K Tryz.prog 135 [.c (.slice n off len 1), .c (.int .i64 at')] h (.tup [.c (.int .u32 ((leN bs : Nat) : Int)), .c (.bool true)]) h := by
 have c1 := getOk Hh h n off len at' o ho hlen hat bs h4 hb
 refine fnG Hh Tryz.f135 ?_
 iterate 3 (first | apply Goes.seq | refine runO Hh E0_sound autBar ?_)
 iterate 2 (first | apply Goes.ret | refine runO Hh (E1_sound E0_sound c1) autBar ?_)
 exact autBar
theorem pointerOk (h : Go.Ev.H) (n off i : Nat) (o : O) (ho : h.get n = some o) (hr : reaches off 256 (some o) = true) (hi : i < 64) (bs : List Nat) (h4 : bs.length = 4) (hb : ∀ j (b : Nat), bs[j]? = some b → b < 256 ∧ loadIn ti5 (off + (4 * i + j)) (some o) = some (.c (.int .u8 (b : Int)))) : CallOk K Tryz.prog 294 [.c (.ptr n off), .c (.int .i64 i)] h (.w (.c (.int .i64 ((leN bs : Nat) : Int)))) h := by
 have c1 := get32Ok Hh h n off 256 (4 * i) o ho (by omega) (by omega) bs h4 hb
 have e1 : (4 : Int) * (i : Int) = ((4 * i : Nat) : Int) := rfl
 have l1 : leN bs < 4294967296 := by
  have := leN_lt (l := bs) (fun x hx => by
   obtain ⟨j, hj⟩ := List.getElem?_of_mem hx
   exact (hb j x hj).1)
  rw [h4] at this
  exact this
 refine fnG Hh Tryz.f294 ?_
 have Jf := andI8 @e1 @ho @hr @tyBlock @dBlock @tyByte @sByte @Nat.add_zero
 iterate 3 (first | apply Goes.seq | refine runO Hh E0_sound autBazJ ?_)
 iterate 4 (first | apply Goes.seq | apply Goes.ret | refine runO Hh (E1_sound E0_sound c1) autBazJ ?_)
 exact autBazJ
end
noncomputable def byteIn (off : Nat) (o : Option O) : Option Nat := match loadIn ti5 off o with
 | some (.c (.int .u8 (.ofNat b))) => bif Nat.blt b 256 then some b else none
 | _ => none
noncomputable def fourIn (off : Nat) (o : Option O) : Option (List Nat) := match byteIn off o, byteIn (off + 1) o, byteIn (off + 2) o, byteIn (off + 3) o with
 | some a, some b, some c, some d => some [a, b, c, d]
 | _, _, _, _ => none
theorem byteIn_some {off : Nat} {o : Option O} {b : Nat} (e : byteIn off o = some b) : b < 256 ∧ loadIn ti5 off o = some (.c (.int .u8 (b : Int))) := by
 unfold byteIn at e
 split at e
 ·rename_i b' hb
  cases hl : Nat.blt b' 256 with
  | false => rw [hl] at e; cases e
  | true =>
   rw [hl] at e
   cases e
   exact ⟨by simpa [Nat.blt_eq] using hl, hb⟩
 ·cases e
theorem fourIn_some {off : Nat} {o : Option O} {l : List Nat} (e : fourIn off o = some l) : l.length = 4 ∧ ∀ j (b : Nat), l[j]? = some b → b < 256 ∧ loadIn ti5 (off + j) o = some (.c (.int .u8 (b : Int))) := by
 unfold fourIn at e
 split at e
 ·rename_i a b c d ha hb hc hd
  cases e
  refine ⟨rfl, fun j x hx => ?_⟩
  match j with
  | 0 => cases hx; exact byteIn_some ha
  | 1 => cases hx; exact byteIn_some hb
  | 2 => cases hx; exact byteIn_some hc
  | 3 => cases hx; exact byteIn_some hd
  | j + 4 => simp at hx
 ·cases e
def ptrOf (h : Go.Ev.H) : Option (List Nat) → Option (V × Go.Ev.H)
 | some l => some (.w (.c (.int .i64 ((leN l : Nat) : Int))), h)
 | none => none
noncomputable def xPtr (args : List W) (h : Go.Ev.H) : Option (V × Go.Ev.H) := match args with
 | [.c (.ptr n off), .c (.int .i64 (.ofNat i))] => bif Nat.blt i 64 && reaches off 256 (h.get n) then ptrOf h (fourIn (off + 4 * i) (h.get n)) else none
 | _ => none
section
variable (Hh : Hearts K Tryz.prog)
include Hh
theorem xPtr_ok {args : List W} {h h' : Go.Ev.H} {v : V} (e : xPtr args h = some (v, h')) : CallOk K Tryz.prog 294 args h v h' := by
 unfold xPtr at e
 split at e
 ·rename_i n off i
  cases hb : (Nat.blt i 64 && reaches off 256 (h.get n)) with
  | false => rw [hb] at e; cases e
  | true =>
   rw [hb] at e
   simp only [Bool.and_eq_true] at hb
   simp only [cond_true] at e
   cases ho : h.get n with
   | none => rw [ho] at hb; exact absurd hb.2 (by simp [reaches])
   | some o =>
    rw [ho] at e hb
    unfold ptrOf at e
    split at e
    ·rename_i l hl
     cases e
     obtain ⟨h4, hbs⟩ := fourIn_some hl
     exact pointerOk Hh h n off i o ho hb.2 (by simpa [Nat.blt_eq] using hb.1) l h4 (fun j b hj => by rw [← Nat.add_assoc]; exact hbs j b hj)
    ·cases e
 ·cases e
end
noncomputable def getOf (h : Go.Ev.H) : Option (List Nat) → Option (V × Go.Ev.H)
 | some l => some (.tup [.c (.int .u32 ((leN l : Nat) : Int)), .c (.bool true)], h)
 | none => none
noncomputable def xGet32n (args : List W) (h : Go.Ev.H) : Option (V × Go.Ev.H) := match args with
 | [.c (.slice n off len 1), .c (.int .i64 (.ofNat i))] => bif Nat.ble (i + 4) len && Nat.blt len 4294967296 then getOf h (fourIn (off + i) (h.get n)) else none
 | _ => none
section
variable (Hh : Hearts K Tryz.prog)
include Hh
theorem xGet32n_ok {args : List W} {h h' : Go.Ev.H} {v : V} (e : xGet32n args h = some (v, h')) : CallOk K Tryz.prog 135 args h v h' := by
 unfold xGet32n at e
 split at e
 ·rename_i n off len i
  cases hb : (Nat.ble (i + 4) len && Nat.blt len 4294967296) with
  | false => rw [hb] at e; cases e
  | true =>
   rw [hb] at e
   simp only [Bool.and_eq_true] at hb
   simp only [cond_true] at e
   unfold getOf at e
   split at e
   ·rename_i l hl
    cases e
    obtain ⟨h4, hbs⟩ := fourIn_some hl
    cases ho : h.get n with
    | none =>
     exfalso
     rw [ho] at hl
     simp [fourIn, byteIn, loadIn] at hl
    | some o =>
     rw [ho] at hbs
     exact get32Ok Hh h n off len i o ho (by simpa [Nat.blt_eq] using hb.2) (Nat.le_of_ble_eq_true hb.1) l h4 (fun j b hj => by rw [← Nat.add_assoc]; exact hbs j b hj)
   ·cases e
 ·cases e
end
end Go.Proofs.YtdnkofpkkebefaaGreatDoor
