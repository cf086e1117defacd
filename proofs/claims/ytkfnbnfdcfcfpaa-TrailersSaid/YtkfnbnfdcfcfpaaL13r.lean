/- What the reference's functions on trailers come to. -/
import Derived.Test.YtkfnbnfdcfcfpaaQ13x6
import Derived.Test.YtkfnbnfdcfcfpaaL13
namespace Go.Proofs.Ytkfnbnfdcfcfpaa.L13
open Go.RowKit Go.Proofs.YtkfnbnfdcfcfpaaW.PrintWords Go.Proofs.YtkfnbnfdcfcfpaaW.PrintLast Go.Proofs.YtkfnbnfdcfcfpaaW.PrintMore Go.Proofs.Ytkfnbnfdcfcfpaa.Base Go.Proofs.Ytkfnbnfdcfcfpaa.Q13
set_option linter.unusedVariables false
set_option linter.unusedSimpArgs false
/-! ### the reference: Num, Of -/
theorem ref_Num1 {k : Nat} (hk : 3 ≤ k) (x : Int) : watchwordref1_Num.f k x 1 = some (strOfNums (e1 x)) := by
  obtain ⟨k, rfl⟩ : ∃ m, k = m + 3 := ⟨k - 3, by omega⟩
  simp [watchwordref1_Num.f, watchwordref1_Num.l0, wrap64, shr, IntKind.bits, e1]
theorem ref_Num2 {k : Nat} (hk : 5 ≤ k) (x : Int) : watchwordref1_Num.f k x 2 = some (strOfNums (e2 x)) := by
  obtain ⟨k, rfl⟩ : ∃ m, k = m + 5 := ⟨k - 5, by omega⟩
  simp [watchwordref1_Num.f, watchwordref1_Num.l0, wrap64, shr, IntKind.bits, e2]
theorem ref_Num4 {k : Nat} (hk : 7 ≤ k) (x : Int) : watchwordref1_Num.f k x 4 = some (strOfNums (e4 x)) := by
  obtain ⟨k, rfl⟩ : ∃ m, k = m + 7 := ⟨k - 7, by omega⟩
  simp [watchwordref1_Num.f, watchwordref1_Num.l0, wrap64, shr, IntKind.bits, e4]
theorem ref_Of_step {acc : Int} {s : ByteArray} {i k d : Nat} (hd : i + (d + 1) = s.size) (hi : i ≤ 6) (h0 : 0 ≤ acc) (h1 : acc < lim i) :
    watchwordref1_Of.l0 (k + 1) s acc (i : Int) = watchwordref1_Of.l0 k s (acc * 256 + (B s).getD i 0) ((i + 1 : Nat) : Int) := by
  have hb : bt s (i : Int) = (B s).getD i 0 := by rw [bt_B, Int.toNat_natCast]
  have hr := byt_getD (B_byt s) i
  have hp : lim i ≤ 281474976710656 := lim_le6 hi
  have h2 : wrap64 (acc * 256) = acc * 256 := wrap_id (by omega) (by omega)
  have h3 : wrap64 ((B s).getD i 0) = (B s).getD i 0 := wrap_id (by omega) (by omega)
  have h4 : wrap64 ((i : Int) + 1) = ((i + 1 : Nat) : Int) := by rw [wrap_id (by omega) (by omega)]; omega
  have h5 : Go.bits .or .i64 (acc * 256) ((B s).getD i 0) = acc * 256 + (B s).getD i 0 := or_byte (by omega) (by omega) (by omega) hr.1 hr.2
  simp only [watchwordref1_Of.l0]
  rw [if_pos (by omega), if_pos (by omega), hb, h2, h3, h4, h5]
theorem ref_Of_l {s : ByteArray} (hs : s.size ≤ 7) : ∀ (d k i : Nat) (acc : Int), i + d = s.size → d < k → 0 ≤ acc → acc < lim i →
    watchwordref1_Of.l0 k s acc (i : Int) = some (((B s).drop i).foldl (fun a b => a * 256 + b) acc) := by
  intro d
  induction d with
  | zero =>
    intro k i acc hi hk h0 h1
    obtain ⟨k, rfl⟩ : ∃ m, k = m + 1 := ⟨k - 1, by omega⟩
    simp only [watchwordref1_Of.l0]
    rw [if_neg (by omega), List.drop_of_length_le (by rw [B_len]; omega)]
    rfl
  | succ d ih =>
    intro k i acc hi hk h0 h1
    obtain ⟨k, rfl⟩ : ∃ m, k = m + 1 := ⟨k - 1, by omega⟩
    have hlt : i < (B s).length := by rw [B_len]; omega
    have hd : (B s).drop i = (B s).getD i 0 :: (B s).drop (i + 1) := by
      rw [List.drop_eq_getElem_cons hlt, List.getD_eq_getElem?_getD, List.getElem?_eq_getElem hlt, Option.getD_some]
    have hr := byt_getD (B_byt s) i
    have hl := lim_succ i
    rw [ref_Of_step hi (by omega) h0 h1, ih k (i + 1) _ (by omega) (by omega) (by omega) (by omega), hd, List.foldl_cons]
theorem ref_Of_f {s : ByteArray} (hs : s.size ≤ 7) {k : Nat} (hk : 8 ≤ k) : watchwordref1_Of.f k s = some (num (B s)) :=
  ref_Of_l hs s.size k 0 0 (by omega) (by omega) (by omega) (by decide)
/-! ### the reference's trailers -/
theorem ref9_upTo_f (a b c : Int) : watchwordref9_upTo.f a b c = some (decide (b ≤ a ∧ a ≤ c)) := by
  unfold watchwordref9_upTo.f
  by_cases h1 : a ≥ b
  · rw [if_pos h1]; simp only [h1, true_and]
  · rw [if_neg h1]; have : ¬ (b ≤ a ∧ a ≤ c) := by omega
    simp [this]
theorem ref_TrailerMay_f (key boot count : Int) (tag : ByteArray) : watchwordref9_TrailerMay.f key boot count tag = some (decide (TrailOk key boot count tag)) := by
  unfold watchwordref9_TrailerMay.f watchwordref9_numberMay.f
  simp only [ref9_upTo_f, Option.bind_some]
  have : ((tag.size : Int) == 32) = decide (tag.size = 32) := by rw [Bool.eq_iff_iff]; simp; omega
  rw [this]
  by_cases h1 : 0 ≤ key ∧ key ≤ 255
  · rw [decide_eq_true h1]
    by_cases h2 : 1 ≤ boot ∧ boot ≤ 4294967295
    · rw [decide_eq_true h2]
      by_cases h3 : 1 ≤ count ∧ count ≤ 4294967295
      · rw [decide_eq_true h3]
        simp only [Option.bind_some, if_true]
        by_cases h4 : tag.size = 32
        · rw [decide_eq_true h4, decide_eq_true]; exact ⟨h1.1, h1.2, h2.1, h2.2, h3.1, h3.2, h4⟩
        · rw [decide_eq_false h4, decide_eq_false]; exact fun h => h4 h.2.2.2.2.2.2
      · rw [decide_eq_false h3]
        simp only [Option.bind_some, if_true]
        rw [decide_eq_false (show ¬ TrailOk key boot count tag from fun h => h3 ⟨h.2.2.2.2.1, h.2.2.2.2.2.1⟩)]
        rfl
    · rw [decide_eq_false h2]
      rw [decide_eq_false (show ¬ TrailOk key boot count tag from fun h => h2 ⟨h.2.2.1, h.2.2.2.1⟩)]
      rfl
  · rw [decide_eq_false h1]
    rw [decide_eq_false (show ¬ TrailOk key boot count tag from fun h => h1 ⟨h.1, h.2.1⟩)]
    rfl
theorem ref_Num3 {k : Nat} (hk : 6 ≤ k) : watchwordref1_Num.f k 0 3 = some (strOfNums [0, 0, 0]) := by
  obtain ⟨k, rfl⟩ : ∃ m, k = m + 6 := ⟨k - 6, by omega⟩
  simp [watchwordref1_Num.f, watchwordref1_Num.l0, wrap64, shr, IntKind.bits]
theorem ref_PutTrailer_f {k : Nat} (hk : 8 ≤ k) (key boot count : Int) (tag : ByteArray) : watchwordref9_PutTrailer.f k key boot count tag = some (putTrailer key boot count tag) := by
  unfold watchwordref9_PutTrailer.f putTrailer
  rw [ref_TrailerMay_f]
  simp only [ref_Num1 (show 3 ≤ k by omega), ref_Num3 (show 6 ≤ k by omega), ref_Num4 (show 7 ≤ k by omega), Option.bind_some, decide_eq_true_eq, strOf_append, strOf_size]
  by_cases h : TrailOk key boot count tag
  · rw [if_pos h, if_pos h]
    have h7 := h.2.2.2.2.2.2
    simp [e1, e4, trl, h7]
  · rw [if_neg h, if_neg h]
theorem ref_GetTrailer_f {k : Nat} (hk : 8 ≤ k) (s : ByteArray) : watchwordref9_GetTrailer.f k s = some (getTrailer s) := by
  have hl := B_len s
  unfold watchwordref9_GetTrailer.f getTrailer
  by_cases h : (s.size : Int) = 44
  · have e48 : B (s.extract 4 8) = ((B s).drop 4).take 4 := by rw [B_extract]
    have e812 : B (s.extract 8 12) = ((B s).drop 8).take 4 := by rw [B_extract]
    have s48 : (s.extract 4 8).size ≤ 7 := by rw [← B_len, e48, List.length_take]; omega
    have s812 : (s.extract 8 12).size ≤ 7 := by rw [← B_len, e812, List.length_take]; omega
    have hr := byt_getD (B_byt s) 0
    have hw : wrap64 (bt s 0) = (B s).getD 0 0 := by
      have hb1 : bt s 0 = (B s).getD 0 0 := bt_B s 0
      rw [hb1]; exact wrap_id (by omega) (by omega)
    rw [if_pos h, if_pos (by omega), if_pos (by omega), if_pos (by omega), ref_Of_f s48 hk, Option.bind_some, if_pos (by omega), if_pos (by omega), ref_Of_f s812 hk, Option.bind_some,
      ref_PutTrailer_f hk, Option.bind_some, hw, e48, e812, if_pos (show s.size = 44 by omega)]
    unfold putTrailer
    by_cases h1 : TrailOk ((B s).getD 0 0) (num (((B s).drop 4).take 4)) (num (((B s).drop 8).take 4)) (s.extract 12 s.size)
    · rw [if_pos h1]
      by_cases h2 : trl ((B s).getD 0 0) (num (((B s).drop 4).take 4)) (num (((B s).drop 8).take 4)) ++ B (s.extract 12 s.size) = B s
      · rw [if_pos rfl, if_pos (by rw [toList_iff, B_append, B_strOf (trl_byt _ _ _)]; exact h2), if_pos ⟨h1, h2⟩]
      · rw [if_pos rfl, if_neg (by rw [toList_iff, B_append, B_strOf (trl_byt _ _ _)]; exact h2), if_neg (fun hh => h2 hh.2)]
    · rw [if_neg h1, if_neg (by decide), if_neg (fun hh => h1 hh.1)]
  · rw [if_neg h, if_neg (show ¬ s.size = 44 by omega)]

end Go.Proofs.Ytkfnbnfdcfcfpaa.L13
