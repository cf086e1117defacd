/- What the functions of the layer 'trailer' come to, in plain lists. -/
import Derived.Test.YtkfnbnfdcfcfpaaQ13x7
import Derived.Test.YtkfnbnfdcfcfpaaBase
namespace Go.Proofs.Ytkfnbnfdcfcfpaa.L13
open Go.RowKit Go.Proofs.YtkfnbnfdcfcfpaaW.PrintWords Go.Proofs.YtkfnbnfdcfcfpaaW.PrintLast Go.Proofs.YtkfnbnfdcfcfpaaW.PrintMore Go.Proofs.Ytkfnbnfdcfcfpaa.Base Go.Proofs.Ytkfnbnfdcfcfpaa.Q13
set_option linter.unusedVariables false
set_option linter.unusedSimpArgs false
/-! ### lsa: One, Two, Four, Number -/
theorem lsa_One_f (x : Int) : lsa_One.f x = some (strOfNums (e1 x)) := rfl
theorem lsa_Two_f (x : Int) : lsa_Two.f x = some (strOfNums (e2 x)) := rfl
theorem lsa_Four_f (x : Int) : lsa_Four.f x = some (strOfNums (e4 x)) := by
  simp only [lsa_Four.f, lsa_Two_f, Option.bind_some, strOf_append, strOf_size, e2_len]
  rw [if_pos (by decide)]
  have h1 : x / 65536 / 256 = x / 16777216 := by omega
  simp only [e2, e4, List.cons_append, List.nil_append, h1]
theorem lsa_Number_step {acc : Int} {s : ByteArray} {i k d : Nat} (hd : i + (d + 1) = s.size) (hi : i ≤ 6) (h0 : 0 ≤ acc) (h1 : acc < lim i) :
    lsa_Number.l0 (k + 1) s acc (s.size : Int) (i : Int) = lsa_Number.l0 k s (acc * 256 + (B s).getD i 0) (s.size : Int) ((i + 1 : Nat) : Int) := by
  have hb : bt s (i : Int) = (B s).getD i 0 := by rw [bt_B, Int.toNat_natCast]
  have hr := byt_getD (B_byt s) i
  have hp : lim i ≤ 281474976710656 := lim_le6 hi
  have h2 : wrap64 (acc * 256) = acc * 256 := wrap_id (by omega) (by omega)
  have h3 : wrap64 ((B s).getD i 0) = (B s).getD i 0 := wrap_id (by omega) (by omega)
  have h4 : wrap64 ((i : Int) + 1) = ((i + 1 : Nat) : Int) := by rw [wrap_id (by omega) (by omega)]; omega
  have h5 : Go.bits .or .i64 (acc * 256) ((B s).getD i 0) = acc * 256 + (B s).getD i 0 := or_byte (by omega) (by omega) (by omega) hr.1 hr.2
  simp only [lsa_Number.l0]
  rw [if_pos (by omega), if_pos (by omega), if_pos (by omega), hb, h2, h3, h4, h5]
theorem lsa_Number_l {s : ByteArray} (hs : s.size ≤ 7) : ∀ (d k i : Nat) (acc : Int), i + d = s.size → d < k → 0 ≤ acc → acc < lim i →
    lsa_Number.l0 k s acc (s.size : Int) (i : Int) = some (((B s).drop i).foldl (fun a b => a * 256 + b) acc) := by
  intro d
  induction d with
  | zero =>
    intro k i acc hi hk h0 h1
    obtain ⟨k, rfl⟩ : ∃ m, k = m + 1 := ⟨k - 1, by omega⟩
    simp only [lsa_Number.l0]
    rw [if_neg (by omega), List.drop_of_length_le (by rw [B_len]; omega)]
    rfl
  | succ d ih =>
    intro k i acc hi hk h0 h1
    obtain ⟨k, rfl⟩ : ∃ m, k = m + 1 := ⟨k - 1, by omega⟩
    have hlt : i < (B s).length := by rw [B_len]; omega
    have hd : (B s).drop i = (B s).getD i 0 :: (B s).drop (i + 1) := by
      rw [List.drop_eq_getElem_cons hlt, List.getD_eq_getElem?_getD, List.getElem?_eq_getElem hlt, Option.getD_some]
    have hr := byt_getD (B_byt s) i
    have hl := lim_succ i
    rw [lsa_Number_step hi (by omega) h0 h1, ih k (i + 1) _ (by omega) (by omega) (by omega) (by omega), hd, List.foldl_cons]
theorem lsa_Number_f {s : ByteArray} (hs : s.size ≤ 7) {k : Nat} (hk : 8 ≤ k) : lsa_Number.f k s = some (num (B s)) :=
  lsa_Number_l hs s.size k 0 0 (by omega) (by omega) (by omega) (by decide)
/-! ### trailer: May, Numbers, Put, Get -/
def TrailOk (key boot count : Int) (tag : ByteArray) : Prop := 0 ≤ key ∧ key ≤ 255 ∧ 1 ≤ boot ∧ boot ≤ 4294967295 ∧ 1 ≤ count ∧ count ≤ 4294967295 ∧ tag.size = 32
instance (key boot count : Int) (tag : ByteArray) : Decidable (TrailOk key boot count tag) := by unfold TrailOk; infer_instance
def trl (key boot count : Int) : List Int := [key % 256, 0, 0, 0] ++ e4 boot ++ e4 count
theorem trl_byt (key boot count : Int) : Byt (trl key boot count) :=
  byt_append (byt_append (byt_cons (byt_mod _) (byt_cons (by omega) (byt_cons (by omega) (byt_cons (by omega) byt_nil)))) (e4_byt _)) (e4_byt _)
theorem trl_len (key boot count : Int) : (trl key boot count).length = 12 := rfl
theorem trailer_May_f (key boot count : Int) (tag : ByteArray) : trailer_May.f key boot count tag = some (decide (TrailOk key boot count tag)) := by
  unfold trailer_May.f chain_Id.f trailer_Boot.f trailer_Count.f TrailOk
  by_cases h1 : key ≥ 0
  · by_cases h2 : key ≤ 255
    · by_cases h3 : boot ≥ 1
      · by_cases h4 : boot ≤ 4294967295
        · by_cases h5 : count ≥ 1
          · by_cases h6 : count ≤ 4294967295
            · have : ((tag.size : Int) == 32) = decide (tag.size = 32) := by rw [Bool.eq_iff_iff]; simp; omega
              simp [h1, h2, h3, h4, h5, h6, this]
            · simp [h1, h2, h3, h4, h5, h6]
          · simp [h1, h2, h3, h4, h5]
        · simp [h1, h2, h3, h4]
      · simp [h1, h2, h3]
    · simp [h1, h2]
  · simp [h1]
theorem trailer_Numbers_f (key boot count : Int) : trailer_Numbers.f key boot count = some (strOfNums (trl key boot count)) := by
  have hl : (⟨#[0, 0, 0]⟩ : ByteArray) = strOfNums [0, 0, 0] := by decide
  simp only [trailer_Numbers.f, lsa_One_f, lsa_Four_f, Option.bind_some, hl, strOf_append, strOf_size]
  simp [e1, e4, trl]
def putTrailer (key boot count : Int) (tag : ByteArray) : ByteArray × Int := if TrailOk key boot count tag then (strOfNums (trl key boot count) ++ tag, 0) else (⟨#[]⟩, 1300)
theorem trailer_Put_f (key boot count : Int) (tag : ByteArray) : trailer_Put.f key boot count tag = some (putTrailer key boot count tag) := by
  unfold trailer_Put.f putTrailer
  rw [trailer_May_f, trailer_Numbers_f]
  simp only [Option.bind_some, decide_eq_true_eq, strOf_size, trl_len]
  by_cases h : TrailOk key boot count tag
  · rw [if_pos h, if_pos h, if_pos (by have := h.2.2.2.2.2.2; omega)]
  · rw [if_neg h, if_neg h]
def getTrailer (s : ByteArray) : Int × Int × Int × ByteArray × Int :=
  if s.size = 44 then
    if TrailOk ((B s).getD 0 0) (num (((B s).drop 4).take 4)) (num (((B s).drop 8).take 4)) (s.extract 12 s.size) ∧ trl ((B s).getD 0 0) (num (((B s).drop 4).take 4)) (num (((B s).drop 8).take 4)) ++ B (s.extract 12 s.size) = B s
    then ((B s).getD 0 0, num (((B s).drop 4).take 4), num (((B s).drop 8).take 4), s.extract 12 s.size, 0) else (0, 0, 0, ⟨#[]⟩, 1300)
  else (0, 0, 0, ⟨#[]⟩, 1300)
theorem trailer_Get_f {k : Nat} (hk : 8 ≤ k) (s : ByteArray) : trailer_Get.f k s = some (getTrailer s) := by
  have hl := B_len s
  unfold trailer_Get.f getTrailer
  by_cases h : (s.size : Int) = 44
  · have e48 : B (s.extract 4 8) = ((B s).drop 4).take 4 := by rw [B_extract]
    have e812 : B (s.extract 8 12) = ((B s).drop 8).take 4 := by rw [B_extract]
    have s48 : (s.extract 4 8).size ≤ 7 := by rw [← B_len, e48, List.length_take]; omega
    have s812 : (s.extract 8 12).size ≤ 7 := by rw [← B_len, e812, List.length_take]; omega
    have hr := byt_getD (B_byt s) 0
    have hw : wrap64 (bt s 0) = (B s).getD 0 0 := by
      have hb1 : bt s 0 = (B s).getD 0 0 := bt_B s 0
      rw [hb1]; exact wrap_id (by omega) (by omega)
    rw [if_pos h, if_pos (by omega), if_pos (by omega), if_pos (by omega), lsa_Number_f s48 hk, Option.bind_some, if_pos (by omega), if_pos (by omega), lsa_Number_f s812 hk, Option.bind_some,
      trailer_Put_f, Option.bind_some, hw, e48, e812, if_pos (show s.size = 44 by omega)]
    unfold putTrailer
    by_cases h1 : TrailOk ((B s).getD 0 0) (num (((B s).drop 4).take 4)) (num (((B s).drop 8).take 4)) (s.extract 12 s.size)
    · rw [if_pos h1]
      by_cases h2 : trl ((B s).getD 0 0) (num (((B s).drop 4).take 4)) (num (((B s).drop 8).take 4)) ++ B (s.extract 12 s.size) = B s
      · rw [if_pos rfl, if_pos (by rw [toList_iff, B_append, B_strOf (trl_byt _ _ _)]; exact h2), if_pos ⟨h1, h2⟩]
      · rw [if_pos rfl, if_neg (by rw [toList_iff, B_append, B_strOf (trl_byt _ _ _)]; exact h2), if_neg (fun hh => h2 hh.2)]
    · rw [if_neg h1, if_neg (by decide), if_neg (fun hh => h1 hh.1)]
  · rw [if_neg h, if_neg (show ¬ s.size = 44 by omega)]
theorem get_trl {key boot count : Int} {tag : ByteArray} (h : TrailOk key boot count tag) : getTrailer (strOfNums (trl key boot count) ++ tag) = (key, boot, count, tag, 0) := by
  have h0 := h
  obtain ⟨h1, h2, h3, h4, h5, h6, h7⟩ := h
  have hk : key % 256 = key := by omega
  have hB : B (strOfNums (trl key boot count) ++ tag) = trl key boot count ++ B tag := by rw [B_append, B_strOf (trl_byt _ _ _)]
  have hs : (strOfNums (trl key boot count) ++ tag).size = 44 := by rw [← B_len, hB, List.length_append, trl_len, B_len]; omega
  have ht : (strOfNums (trl key boot count) ++ tag).extract 12 (strOfNums (trl key boot count) ++ tag).size = tag := by
    apply B_inj
    rw [B_extract, hB, hs, ← trl_len key boot count, List.drop_left, List.take_of_length_le (by rw [B_len]; rw [trl_len]; omega)]
  have e1 : (trl key boot count ++ B tag).getD 0 0 = key := by simp [trl, hk]
  have e2' : ((trl key boot count ++ B tag).drop 4).take 4 = e4 boot := by simp [trl, e4]
  have e3 : ((trl key boot count ++ B tag).drop 8).take 4 = e4 count := by simp [trl, e4]
  unfold getTrailer
  rw [if_pos hs, ht, hB, e1, e2', e3, num_e4 (by omega) (by omega), num_e4 (by omega) (by omega), if_pos ⟨h0, rfl⟩]
theorem get_trl_ok {s : ByteArray} (h : (getTrailer s).2.2.2.2 = 0) : TrailOk (getTrailer s).1 (getTrailer s).2.1 (getTrailer s).2.2.1 (getTrailer s).2.2.2.1 ∧
    strOfNums (trl (getTrailer s).1 (getTrailer s).2.1 (getTrailer s).2.2.1) ++ (getTrailer s).2.2.2.1 = s := by
  unfold getTrailer at h ⊢
  by_cases h0 : s.size = 44
  · rw [if_pos h0] at h ⊢
    by_cases h1 : TrailOk ((B s).getD 0 0) (num (((B s).drop 4).take 4)) (num (((B s).drop 8).take 4)) (s.extract 12 s.size) ∧ trl ((B s).getD 0 0) (num (((B s).drop 4).take 4)) (num (((B s).drop 8).take 4)) ++ B (s.extract 12 s.size) = B s
    · rw [if_pos h1]
      refine ⟨h1.1, B_inj ?_⟩
      rw [B_append, B_strOf (trl_byt _ _ _)]; exact h1.2
    · rw [if_neg h1] at h; exact absurd h (by decide)
  · rw [if_neg h0] at h; exact absurd h (by decide)
theorem get_trl_no {s : ByteArray} (h : ¬ (getTrailer s).2.2.2.2 = 0) : getTrailer s = (0, 0, 0, ⟨#[]⟩, 1300) := by
  unfold getTrailer at h ⊢
  by_cases h0 : s.size = 44
  · rw [if_pos h0] at h ⊢
    by_cases h1 : TrailOk ((B s).getD 0 0) (num (((B s).drop 4).take 4)) (num (((B s).drop 8).take 4)) (s.extract 12 s.size) ∧ trl ((B s).getD 0 0) (num (((B s).drop 4).take 4)) (num (((B s).drop 8).take 4)) ++ B (s.extract 12 s.size) = B s
    · rw [if_pos h1] at h; exact absurd rfl h
    · rw [if_neg h1]
  · rw [if_neg h0]
/-- The layer is awake. -/
theorem awake_ok {k : Nat} (hk : 100 ≤ k) : watchwordlaw13_awake.f k = some true :=
  at_rounds (g := fun k => watchwordlaw13_awake.f k) watchwordlaw13_awake.mono hk (by decide +kernel)

end Go.Proofs.Ytkfnbnfdcfcfpaa.L13
