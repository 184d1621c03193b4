/- quernref29.Split answers as the plain 'splitR'. -/
import Derived.Test.YtjpmekapkjkkbaaRef
import Derived.Test.YtjpmekapkjkkbaaPlainRef
namespace Go.Proofs.Ytjpmekapkjkkbaa
open Go.RowKit Go.Shelf

theorem own_base {w : World} {base : Nat} {e : TypeId} {size : Nat} {v : Value} {n : Nat} {xs : List Value} (h : w.ownsRow base e size v n xs) {k : Nat} (hk : v.ownBlock = some k) : base ≤ k := by
  rcases h.2 with ⟨rfl, _⟩ | ⟨g, cap, cur, rfl, hg, _⟩
  · cases hk
  · cases hk
    exact hg

set_option maxHeartbeats 8000000 in
set_option maxRecDepth 100000 in
theorem refSplit_walk (path : ByteArray) (w : World) (body : List UInt8) (hpath : path.data.toList = 47 :: body) (hbody : body ≠ []) (h2 : path.size ≤ 512) (q2 : (path.toList == [47]) = false) (r : List (List UInt8)) (n : Int) (hr : splitR path.data.toList = (r, n)) :
    Calls Try.prog 13 #[.string path] w (TellsNames w r n) := by
  have hz : path.size = body.length + 1 := by rw [Lib.size_eq, hpath]; rfl
  have hz0 : 1 ≤ body.length := by cases body with | nil => exact absurd rfl hbody | cons _ _ => simp
  have hz1 : 1 ≤ path.size := by omega
  have hb0 : path[0]'hz1 = 47 := by
    have := Lib.data_getElem? path 0 (by omega)
    rw [hpath] at this
    simpa using this.symm
  have d1 : decide ((512 : Int) < (path.size : Int)) = false := decide_eq_false (by omega)
  have q1 : path.toList.isEmpty = false := by rw [Lib.toList_data, hpath]; rfl
  have d3 : (((path[0]'hz1).toNat : Int) != 47) = false := by rw [hb0]; rfl
  have hsr : splitR path.data.toList = if (pieces body).all mayB = false then ([], 290) else if 16 < (pieces body).length then ([], 4) else (pieces body, 0) := by
    have ht : tellL path.data.toList = pieces body := by
      rw [hpath]
      unfold tellL
      rw [List.drop_succ_cons, List.drop_zero, if_neg hbody]
    unfold splitR
    rw [ht, if_neg (by rw [← Lib.size_eq]; omega), hpath]
    simp
  rw [hsr] at hr
  have HR := Lib.hid hr
  have hget : ∀ k b, body[k]? = some b → ∃ h : k + 1 < path.size, path[k + 1]'h = b := by
    intro k b hk
    have hkl : k < body.length := (List.getElem?_eq_some_iff.1 hk).1
    refine ⟨by omega, ?_⟩
    have := Lib.data_getElem? path (k + 1) (by omega)
    rw [hpath, List.getElem?_cons_succ, hk] at this
    exact (Option.some.inj this).symm
  have hext : ∀ k b, body[k]? = some b → path.extract (k + 1) (k + 1 + 1) = ⟨#[b]⟩ := by
    intro k b hk
    obtain ⟨hkl, rfl⟩ := List.getElem?_eq_some_iff.1 hk
    rw [data_eq, ByteArray.data_extract, Array.toList_extract, hpath]
    show ((47 :: body).drop (k + 1)).take (k + 1 + 1 - (k + 1)) = [body[k]]
    rw [List.drop_succ_cons, List.drop_eq_getElem_cons hkl, show k + 1 + 1 - (k + 1) = 1 from by omega]
    rfl
  have HExt := Lib.hid hext
  have HGet := Lib.hid hget
  obtain ⟨i0, hi, hzz0, hzz1, hzz2⟩ := info_parts info9
  have HZ := Lib.hid hz
  have hz' : (path.size : Int) = body.length + 1 := by omega
  clear hpath hsr hr hget hb0 hz hz' hext
  have hzl : path.size ≤ body.length + 1 := by have := HZ.out; omega
  have hzg : body.length + 1 ≤ path.size := by have := HZ.out; omega
  go_enter Try.func13, Try.ntmps13
  go_wp2_with fail
  go_loopw [4, 5, 6] (fun v s i wr => ∃ (k : Nat) (l : List (List UInt8)) (nm : List UInt8), i = .int .i64 (k + 1 : Nat) ∧ s = S nm ∧ nm.length ≤ k ∧ l.length ≤ k ∧ k ≤ body.length + 1 ∧ wr.ownsRow w.heap.size 9 1 v l.length (l.map S) ∧ (v = .slice none 0 0 ↔ l = []) ∧ l.all mayB = true ∧ Come body k l nm ∧ Below w.heap.size w wr)
    (fun _ _ i _ => path.size + 1 - (intOf i).toNat)
  case atStart => exact ⟨0, [], [], rfl, rfl, Nat.le_refl _, Nat.le_refl _, by omega, World.ownsRow_nil _ _ _ _, by simp, rfl, come_start body, Below.refl _ _⟩
  case round =>
    obtain ⟨k, l, nm, rfl, rfl, hnm, hll, hk, hrow, hnil, hall, hcome, hbel⟩ := hrel
    have HRow := Lib.hid hrow
    have HNil := Lib.hid hnil
    have HAll := Lib.hid hall
    have HCome := Lib.hid hcome
    have HB := Lib.hid hbel
    clear hrow hnil hall hcome hbel
    by_cases hkl : k < body.length
    · obtain ⟨b, hb⟩ : ∃ b, body[k]? = some b := ⟨_, List.getElem?_eq_getElem hkl⟩
      obtain ⟨hlt, hpb⟩ := HGet.out k b hb
      by_cases h47 : b = 47
      · subst h47
        have HNext := Lib.hid (come_stroke HCome.out hb)
        clear hb
        have hxs : (⟨nm.toArray⟩ : ByteArray).data.toList = nm := by simp
        cases hm : mayB nm
        · have hbad : (pieces body).all mayB = false := by
            rw [Bool.eq_false_iff]
            intro ha
            have := List.all_eq_true.1 ha nm HNext.out.2
            rw [hm] at this
            cases this
          obtain ⟨rfl, rfl⟩ : r = [] ∧ n = 290 := by have := HR.out; rw [if_pos hbad] at this; exact ⟨(congrArg Prod.fst this).symm, (congrArg Prod.snd this).symm⟩
          clear hbad
          go_wp2_with (go_at_call 20; refine (mayName_any ⟨nm.toArray⟩ _).mono ?_; rintro e w' ⟨rfl, rfl⟩; rw [hxs, hm])
          go_ret2
          exact tells_none _ _ _ HB.out
        · go_wp2_with (first
            | (go_at_call 20; refine (mayName_any ⟨nm.toArray⟩ _).mono ?_; rintro e w' ⟨rfl, rfl⟩; rw [hxs, hm])
            | (at_builtin; refine wpList_append_own _ rfl _ _ 22 rfl w.heap.size 9 i0 (.string ⟨#[]⟩) 1 16 Try.underlying22 hi hzz0 hzz1 hzz2 rfl (by decide) _ _ _ rfl (HRow.out.alloc _) ⟨wr.heap.size, 0, none⟩ 1 1 [S nm] rfl rfl (cell_one_new _ _ _) (by simp [Value.oneCell']) (by unfold maxLen; omega) (by omega) (by have := HB.out.size; simp; omega) ?_; intro v' w1 hown' hgrow _; have HO := Lib.hid hown'; have HGr := Lib.hid hgrow; clear hown' hgrow))
          go_roundw
          case rel =>
            refine ⟨k + 1, l ++ [nm], [], by go_num, rfl, by simp, by simp; omega, by omega, by simpa using HO.out, ?_, by rw [List.all_append, HAll.out]; simpa using hm, HNext.out.1, ?_⟩
            · obtain ⟨g', cap', rfl⟩ := ownsRow_succ HO.out
              simp
            · exact (HB.out.alloc HB.out.size _).grown HGr.out (by have := HB.out.size; simp; omega) (fun j e => own_base HRow.out e)
          case measure => simp [intOf]; omega
      · have e1 : ((b.toNat : Int) != 47) = true := by
          rw [bne_iff_ne]; intro e; exact h47 (UInt8.toNat_inj.1 (by show b.toNat = 47; omega))
        have HNext := Lib.hid (come_byte HCome.out hb h47)
        have hext := HExt.out k b hb
        have hsz := S_size nm
        clear hb
        go_wp2_with fail
        go_roundw
        case rel => exact ⟨k + 1, l, nm ++ [b], by go_num, congrArg Value.string (data_eq.2 (by simp)), by simp; omega, by omega, by omega, HRow.out, HNil.out, HAll.out, HNext.out, HB.out⟩
        case measure => simp [intOf]; omega
    · by_cases hke : k = body.length
      · subst hke
        have HNext := Lib.hid (come_end HCome.out)
        have hxs : (⟨nm.toArray⟩ : ByteArray).data.toList = nm := by simp
        cases hm : mayB nm
        · have hbad : (pieces body).all mayB = false := by
            rw [Bool.eq_false_iff]
            intro ha
            have := List.all_eq_true.1 ha nm HNext.out.2
            rw [hm] at this
            cases this
          obtain ⟨rfl, rfl⟩ : r = [] ∧ n = 290 := by have := HR.out; rw [if_pos hbad] at this; exact ⟨(congrArg Prod.fst this).symm, (congrArg Prod.snd this).symm⟩
          clear hbad
          go_wp2_with (go_at_call 20; refine (mayName_any ⟨nm.toArray⟩ _).mono ?_; rintro e w' ⟨rfl, rfl⟩; rw [hxs, hm])
          go_ret2
          exact tells_none _ _ _ HB.out
        · go_wp2_with (first
            | (go_at_call 20; refine (mayName_any ⟨nm.toArray⟩ _).mono ?_; rintro e w' ⟨rfl, rfl⟩; rw [hxs, hm])
            | (at_builtin; refine wpList_append_own _ rfl _ _ 22 rfl w.heap.size 9 i0 (.string ⟨#[]⟩) 1 16 Try.underlying22 hi hzz0 hzz1 hzz2 rfl (by decide) _ _ _ rfl (HRow.out.alloc _) ⟨wr.heap.size, 0, none⟩ 1 1 [S nm] rfl rfl (cell_one_new _ _ _) (by simp [Value.oneCell']) (by unfold maxLen; omega) (by omega) (by have := HB.out.size; simp; omega) ?_; intro v' w1 hown' hgrow _; have HO := Lib.hid hown'; have HGr := Lib.hid hgrow; clear hown' hgrow))
          go_roundw
          case rel =>
            refine ⟨body.length + 1, l ++ [nm], [], by go_num, rfl, by simp, by simp; omega, by omega, by simpa using HO.out, ?_, by rw [List.all_append, HAll.out]; simpa using hm, HNext.out.1, ?_⟩
            · obtain ⟨g', cap', rfl⟩ := ownsRow_succ HO.out
              simp
            · exact (HB.out.alloc HB.out.size _).grown HGr.out (by have := HB.out.size; simp; omega) (fun j e => own_base HRow.out e)
          case measure => simp [intOf]; omega
      · have hdone := come_done HCome.out (by omega)
        have hlenv : u4 = .slice none 0 0 ∨ ∃ g cap, u4 = .slice (some ⟨g, 0, none⟩) l.length cap := by
          rcases HRow.out.2 with hn | ⟨g, cap, cur, rfl, _⟩
          · exact .inl hn.1
          · exact .inr ⟨g, cap, rfl⟩
        by_cases h16 : 16 < l.length
        · obtain ⟨rfl, rfl⟩ : r = [] ∧ n = 4 := by
            have := HR.out
            rw [← hdone, if_neg (by rw [HAll.out]; simp), if_pos h16] at this
            exact ⟨(congrArg Prod.fst this).symm, (congrArg Prod.snd this).symm⟩
          clear hdone
          rcases hlenv with rfl | ⟨g, cap, rfl⟩
          · have := HNil.out.1 rfl
            rw [this] at h16
            simp at h16
          · go_wp2_with fail
            go_ret2
            exact tells_none _ _ _ HB.out
        · obtain ⟨rfl, rfl⟩ : r = l ∧ n = 0 := by
            have := HR.out
            rw [← hdone, if_neg (by rw [HAll.out]; simp), if_neg h16] at this
            exact ⟨(congrArg Prod.fst this).symm, (congrArg Prod.snd this).symm⟩
          clear hdone
          rcases hlenv with rfl | ⟨g, cap, rfl⟩
          · have h0 := HNil.out.1 rfl
            subst h0
            go_wp2_with fail
            go_ret2
            exact tells_none _ _ _ HB.out
          · go_wp2_with fail
            go_ret2
            exact ⟨_, rfl, HRow.out, HNil.out, HB.out⟩

set_option maxHeartbeats 4000000 in
theorem refSplit_long (path : ByteArray) (w : World) (h : 512 < path.size) : Calls Try.prog 13 #[.string path] w (TellsNames w [] 3) := by
  have d1 : decide ((512 : Int) < (path.size : Int)) = true := decide_eq_true (by omega)
  go_enter Try.func13, Try.ntmps13
  go_wp2_with fail
  go_ret2
  exact tells_none _ _ _ (Below.refl _ _)

set_option maxHeartbeats 4000000 in
theorem refSplit_root (w : World) : Calls Try.prog 13 #[.string ⟨#[47]⟩] w (TellsNames w [] 0) := by
  go_enter Try.func13, Try.ntmps13
  go_wp2_with fail
  go_ret2
  exact tells_none _ _ _ (Below.refl _ _)

set_option maxHeartbeats 4000000 in
theorem refSplit_void (w : World) : Calls Try.prog 13 #[.string ⟨#[]⟩] w (TellsNames w [] 290) := by
  go_enter Try.func13, Try.ntmps13
  go_wp2_with fail
  go_ret2
  exact tells_none _ _ _ (Below.refl _ _)

set_option maxHeartbeats 4000000 in
theorem refSplit_other (path : ByteArray) (w : World) (h1 : 1 ≤ path.size) (h2 : path.size ≤ 512) (h3 : ¬ (path[0]'(by omega)).toNat = 47) (h4 : path.toList.isEmpty = false) (h5 : (path.toList == [47]) = false) : Calls Try.prog 13 #[.string path] w (TellsNames w [] 290) := by
  have d1 : decide ((512 : Int) < (path.size : Int)) = false := decide_eq_false (by omega)
  have d3 : (((path[0]'(by omega)).toNat : Int) != 47) = true := by rw [bne_iff_ne]; omega
  go_enter Try.func13, Try.ntmps13
  go_wp2_with fail
  go_ret2
  exact tells_none _ _ _ (Below.refl _ _)

/-- quernref29.Split tells what 'splitR' says. -/
theorem refSplit_any (path : ByteArray) (w : World) : Calls Try.prog 13 #[.string path] w (TellsNames w (splitR path.data.toList).1 (splitR path.data.toList).2) := by
  have hz := Lib.size_eq path
  by_cases hl : 512 < path.size
  · have e : splitR path.data.toList = ([], 3) := by unfold splitR; rw [if_pos (by omega)]
    rw [e]
    exact refSplit_long path w hl
  cases hp : path.data.toList with
  | nil =>
    obtain rfl : path = ⟨#[]⟩ := data_eq.2 hp
    exact refSplit_void w
  | cons b body =>
    rw [hp, List.length_cons] at hz
    have h4 : path.toList.isEmpty = false := by rw [Lib.toList_data, hp]; rfl
    have hb0 : path[0]'(by omega) = b := by
      have := Lib.data_getElem? path 0 (by omega)
      rw [hp] at this
      simpa using this.symm
    by_cases hb : b = 47
    · subst hb
      by_cases hbody : body = []
      · subst hbody
        obtain rfl : path = ⟨#[47]⟩ := data_eq.2 hp
        exact refSplit_root w
      · have q2 : (path.toList == [47]) = false := by
          rw [Lib.toList_data, hp, beq_eq_false_iff_ne]
          intro e
          exact hbody (List.cons.inj e).2
        refine refSplit_walk path w body hp hbody (by omega) q2 _ _ ?_
        rw [hp]
    · have e : splitR (b :: body) = ([], 290) := by
        unfold splitR
        rw [if_neg (by rw [List.length_cons]; omega), if_pos (by simp [hb])]
      rw [e]
      refine refSplit_other path w (by omega) (by omega) ?_ h4 ?_
      · rw [hb0]
        intro e
        exact hb (UInt8.toNat_inj.1 e)
      · rw [Lib.toList_data, hp, beq_eq_false_iff_ne]
        intro e
        exact hb (List.cons.inj e).1

end Go.Proofs.Ytjpmekapkjkkbaa
