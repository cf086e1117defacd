/- What the functions of the layer 'head' come to, in plain lists. -/
import Derived.Test.YtkfnbnfdcfcfpaaQ8x1
import Derived.Test.YtkfnbnfdcfcfpaaQ8x2
import Derived.Test.YtkfnbnfdcfcfpaaBase
namespace Go.Proofs.Ytkfnbnfdcfcfpaa.L8
open Go.RowKit Go.Proofs.YtkfnbnfdcfcfpaaW.PrintWords Go.Proofs.YtkfnbnfdcfcfpaaW.PrintLast Go.Proofs.YtkfnbnfdcfcfpaaW.PrintMore Go.Proofs.Ytkfnbnfdcfcfpaa.Base Go.Proofs.Ytkfnbnfdcfcfpaa.Q8
set_option linter.unusedVariables false
set_option linter.unusedSimpArgs false
/-! ### lsa: One, Two, Four, Number -/
theorem lsa_One_f (x : Int) : lsa_One.f x = some (strOfNums (e1 x)) := rfl
theorem lsa_Two_f (x : Int) : lsa_Two.f x = some (strOfNums (e2 x)) := rfl
theorem lsa_Four_f (x : Int) : lsa_Four.f x = some (strOfNums (e4 x)) := by
  simp only [lsa_Four.f, lsa_Two_f, Option.bind_some, strOf_append, strOf_size, e2_len]
  rw [if_pos (by decide)]
  have h1 : x / 65536 / 256 = x / 16777216 := by omega
  simp only [e2, e4, List.cons_append, List.nil_append, h1]
theorem lsa_Number_step {acc : Int} {s : ByteArray} {i k d : Nat} (hd : i + (d + 1) = s.size) (hi : i ≤ 6) (h0 : 0 ≤ acc) (h1 : acc < lim i) :
    lsa_Number.l0 (k + 1) s acc (s.size : Int) (i : Int) = lsa_Number.l0 k s (acc * 256 + (B s).getD i 0) (s.size : Int) ((i + 1 : Nat) : Int) := by
  have hb : bt s (i : Int) = (B s).getD i 0 := by rw [bt_B, Int.toNat_natCast]
  have hr := byt_getD (B_byt s) i
  have hp : lim i ≤ 281474976710656 := lim_le6 hi
  have h2 : wrap64 (acc * 256) = acc * 256 := wrap_id (by omega) (by omega)
  have h3 : wrap64 ((B s).getD i 0) = (B s).getD i 0 := wrap_id (by omega) (by omega)
  have h4 : wrap64 ((i : Int) + 1) = ((i + 1 : Nat) : Int) := by rw [wrap_id (by omega) (by omega)]; omega
  have h5 : Go.bits .or .i64 (acc * 256) ((B s).getD i 0) = acc * 256 + (B s).getD i 0 := or_byte (by omega) (by omega) (by omega) hr.1 hr.2
  simp only [lsa_Number.l0]
  rw [if_pos (by omega), if_pos (by omega), if_pos (by omega), hb, h2, h3, h4, h5]
theorem lsa_Number_l {s : ByteArray} (hs : s.size ≤ 7) : ∀ (d k i : Nat) (acc : Int), i + d = s.size → d < k → 0 ≤ acc → acc < lim i →
    lsa_Number.l0 k s acc (s.size : Int) (i : Int) = some (((B s).drop i).foldl (fun a b => a * 256 + b) acc) := by
  intro d
  induction d with
  | zero =>
    intro k i acc hi hk h0 h1
    obtain ⟨k, rfl⟩ : ∃ m, k = m + 1 := ⟨k - 1, by omega⟩
    simp only [lsa_Number.l0]
    rw [if_neg (by omega), List.drop_of_length_le (by rw [B_len]; omega)]
    rfl
  | succ d ih =>
    intro k i acc hi hk h0 h1
    obtain ⟨k, rfl⟩ : ∃ m, k = m + 1 := ⟨k - 1, by omega⟩
    have hlt : i < (B s).length := by rw [B_len]; omega
    have hd : (B s).drop i = (B s).getD i 0 :: (B s).drop (i + 1) := by
      rw [List.drop_eq_getElem_cons hlt, List.getD_eq_getElem?_getD, List.getElem?_eq_getElem hlt, Option.getD_some]
    have hr := byt_getD (B_byt s) i
    have hl := lim_succ i
    rw [lsa_Number_step hi (by omega) h0 h1, ih k (i + 1) _ (by omega) (by omega) (by omega) (by omega), hd, List.foldl_cons]
theorem lsa_Number_f {s : ByteArray} (hs : s.size ≤ 7) {k : Nat} (hk : 8 ≤ k) : lsa_Number.f k s = some (num (B s)) :=
  lsa_Number_l hs s.size k 0 0 (by omega) (by omega) (by omega) (by decide)
/-! ### the reference: Num, Of -/
theorem ref_Num1 {k : Nat} (hk : 3 ≤ k) (x : Int) : watchwordref1_Num.f k x 1 = some (strOfNums (e1 x)) := by
  obtain ⟨k, rfl⟩ : ∃ m, k = m + 3 := ⟨k - 3, by omega⟩
  simp [watchwordref1_Num.f, watchwordref1_Num.l0, wrap64, shr, IntKind.bits, e1]
theorem ref_Num2 {k : Nat} (hk : 5 ≤ k) (x : Int) : watchwordref1_Num.f k x 2 = some (strOfNums (e2 x)) := by
  obtain ⟨k, rfl⟩ : ∃ m, k = m + 5 := ⟨k - 5, by omega⟩
  simp [watchwordref1_Num.f, watchwordref1_Num.l0, wrap64, shr, IntKind.bits, e2]
theorem ref_Num4 {k : Nat} (hk : 7 ≤ k) (x : Int) : watchwordref1_Num.f k x 4 = some (strOfNums (e4 x)) := by
  obtain ⟨k, rfl⟩ : ∃ m, k = m + 7 := ⟨k - 7, by omega⟩
  simp [watchwordref1_Num.f, watchwordref1_Num.l0, wrap64, shr, IntKind.bits, e4]
theorem ref_Of_step {acc : Int} {s : ByteArray} {i k d : Nat} (hd : i + (d + 1) = s.size) (hi : i ≤ 6) (h0 : 0 ≤ acc) (h1 : acc < lim i) :
    watchwordref1_Of.l0 (k + 1) s acc (i : Int) = watchwordref1_Of.l0 k s (acc * 256 + (B s).getD i 0) ((i + 1 : Nat) : Int) := by
  have hb : bt s (i : Int) = (B s).getD i 0 := by rw [bt_B, Int.toNat_natCast]
  have hr := byt_getD (B_byt s) i
  have hp : lim i ≤ 281474976710656 := lim_le6 hi
  have h2 : wrap64 (acc * 256) = acc * 256 := wrap_id (by omega) (by omega)
  have h3 : wrap64 ((B s).getD i 0) = (B s).getD i 0 := wrap_id (by omega) (by omega)
  have h4 : wrap64 ((i : Int) + 1) = ((i + 1 : Nat) : Int) := by rw [wrap_id (by omega) (by omega)]; omega
  have h5 : Go.bits .or .i64 (acc * 256) ((B s).getD i 0) = acc * 256 + (B s).getD i 0 := or_byte (by omega) (by omega) (by omega) hr.1 hr.2
  simp only [watchwordref1_Of.l0]
  rw [if_pos (by omega), if_pos (by omega), hb, h2, h3, h4, h5]
theorem ref_Of_l {s : ByteArray} (hs : s.size ≤ 7) : ∀ (d k i : Nat) (acc : Int), i + d = s.size → d < k → 0 ≤ acc → acc < lim i →
    watchwordref1_Of.l0 k s acc (i : Int) = some (((B s).drop i).foldl (fun a b => a * 256 + b) acc) := by
  intro d
  induction d with
  | zero =>
    intro k i acc hi hk h0 h1
    obtain ⟨k, rfl⟩ : ∃ m, k = m + 1 := ⟨k - 1, by omega⟩
    simp only [watchwordref1_Of.l0]
    rw [if_neg (by omega), List.drop_of_length_le (by rw [B_len]; omega)]
    rfl
  | succ d ih =>
    intro k i acc hi hk h0 h1
    obtain ⟨k, rfl⟩ : ∃ m, k = m + 1 := ⟨k - 1, by omega⟩
    have hlt : i < (B s).length := by rw [B_len]; omega
    have hd : (B s).drop i = (B s).getD i 0 :: (B s).drop (i + 1) := by
      rw [List.drop_eq_getElem_cons hlt, List.getD_eq_getElem?_getD, List.getElem?_eq_getElem hlt, Option.getD_some]
    have hr := byt_getD (B_byt s) i
    have hl := lim_succ i
    rw [ref_Of_step hi (by omega) h0 h1, ih k (i + 1) _ (by omega) (by omega) (by omega) (by omega), hd, List.foldl_cons]
theorem ref_Of_f {s : ByteArray} (hs : s.size ≤ 7) {k : Nat} (hk : 8 ≤ k) : watchwordref1_Of.f k s = some (num (B s)) :=
  ref_Of_l hs s.size k 0 0 (by omega) (by omega) (by omega) (by decide)
/-! ### head: Put, Get -/
def HeadOk (k r s : Int) : Prop := (k = 1 ∨ k = 4 ∨ k = 5) ∧ 1 ≤ r ∧ r ≤ 4 ∧ 12 ≤ s ∧ s ≤ 512
instance (k r s : Int) : Decidable (HeadOk k r s) := by unfold HeadOk; infer_instance
def hdr (k r s : Int) : List Int := [2, k % 256] ++ e2 s ++ e4 r ++ [0, 0, 0, 0]
theorem hdr_byt (k r s : Int) : Byt (hdr k r s) :=
  byt_append (byt_append (byt_append (byt_cons (by omega) (byt_cons (byt_mod _) byt_nil)) (e2_byt _)) (e4_byt _)) (byt_cons (by omega) (byt_cons (by omega) (byt_cons (by omega) (byt_cons (by omega) byt_nil))))
theorem hdr_len (k r s : Int) : (hdr k r s).length = 12 := rfl
theorem head_j0 (m : Nat) (kind r s : Int) : head_Put.j0 (m + 1) kind r s false = some (strOfNums (hdr kind r s), 0) := by
  simp only [head_Put.j0, lsa_One_f, lsa_Two_f, lsa_Four_f, Option.bind_some, strOf_append, strOf_size]
  simp [e1, e2, e4, hdr]
theorem head_j0t (m : Nat) (kind r s : Int) : head_Put.j0 (m + 1) kind r s true = some (⟨#[]⟩, 800) := by simp [head_Put.j0]
theorem head_Put_f {k : Nat} (hk : 1 ≤ k) (kind r s : Int) : head_Put.f k kind r s = some (if HeadOk kind r s then (strOfNums (hdr kind r s), 0) else (⟨#[]⟩, 800)) := by
  obtain ⟨k, rfl⟩ : ∃ m, k = m + 1 := ⟨k - 1, by omega⟩
  have ht : head_Type.f kind = some (decide (kind = 1 ∨ kind = 4 ∨ kind = 5)) := by
    unfold head_Type.f
    by_cases h1 : kind = 1
    · simp [h1]
    · by_cases h4 : kind = 4
      · simp [h4]
      · simp only [if_neg h1, if_neg h4, h1, h4, false_or]
        rfl
  have hr : lsa_Router.f r = some (decide (1 ≤ r ∧ r ≤ 4)) := by
    unfold lsa_Router.f
    by_cases h1 : r ≥ 1
    · rw [if_pos h1]; simp only [h1, true_and]
    · rw [if_neg h1]; have : ¬ (1 ≤ r ∧ r ≤ 4) := by omega
      simp [this]
  simp only [head_Put.f, ht, hr, Option.bind_some, decide_eq_true_eq]
  by_cases h1 : kind = 1 ∨ kind = 4 ∨ kind = 5
  · rw [if_pos h1]
    by_cases h2 : 1 ≤ r ∧ r ≤ 4
    · rw [if_pos h2]
      by_cases h3 : s < 12
      · rw [if_pos h3, head_j0t, if_neg (by unfold HeadOk; omega)]
      · rw [if_neg h3]
        by_cases h5 : s > 512
        · rw [decide_eq_true h5, head_j0t, if_neg (by unfold HeadOk; omega)]
        · rw [decide_eq_false h5, head_j0, if_pos ⟨h1, by omega⟩]
    · rw [if_neg h2, head_j0t, if_neg (by unfold HeadOk; omega)]
  · rw [if_neg h1, head_j0t, if_neg (by unfold HeadOk; exact fun h => h1 h.1)]
theorem ref_j0 {m : Nat} (hm : 7 ≤ m) (kind r s : Int) : watchwordref1_PutHead.j0 (m + 1) kind r s false = some (strOfNums (hdr kind r s), 0) := by
  have hl : (⟨#[2]⟩ : ByteArray) = strOfNums [2] := by decide
  simp only [watchwordref1_PutHead.j0, ref_Num1 (show 3 ≤ m by omega), ref_Num2 (show 5 ≤ m by omega), ref_Num4 hm, Option.bind_some, hl, strOf_append, strOf_size]
  simp [e1, e2, e4, hdr]
theorem ref_j0t (m : Nat) (kind r s : Int) : watchwordref1_PutHead.j0 (m + 1) kind r s true = some (⟨#[]⟩, 800) := by simp [watchwordref1_PutHead.j0]
theorem ref_PutHead_f {k : Nat} (hk : 8 ≤ k) (kind r s : Int) : watchwordref1_PutHead.f k kind r s = some (if HeadOk kind r s then (strOfNums (hdr kind r s), 0) else (⟨#[]⟩, 800)) := by
  obtain ⟨k, rfl⟩ : ∃ m, k = m + 1 := ⟨k - 1, by omega⟩
  have ht : watchwordref1_TypeMay.f kind = some (decide (kind = 1 ∨ kind = 4 ∨ kind = 5)) := by
    unfold watchwordref1_TypeMay.f
    by_cases h1 : kind = 1
    · simp [h1]
    · by_cases h4 : kind = 4
      · simp [h4]
      · simp only [if_neg h1, if_neg h4, h1, h4, false_or]
        rfl
  have hu : ∀ a b c : Int, watchwordref1_upTo.f a b c = some (decide (b ≤ a ∧ a ≤ c)) := by
    intro a b c
    unfold watchwordref1_upTo.f
    by_cases h1 : a ≥ b
    · rw [if_pos h1]; simp only [h1, true_and]
    · rw [if_neg h1]; have : ¬ (b ≤ a ∧ a ≤ c) := by omega
      simp [this]
  simp only [watchwordref1_PutHead.f, watchwordref1_routerMay.f, ht, hu, Option.bind_some, decide_eq_true_eq]
  by_cases h1 : kind = 1 ∨ kind = 4 ∨ kind = 5
  · rw [if_pos h1]
    by_cases h2 : 1 ≤ r ∧ r ≤ 4
    · rw [if_pos h2]
      by_cases h3 : 12 ≤ s ∧ s ≤ 512
      · rw [decide_eq_true h3]
        show watchwordref1_PutHead.j0 (k + 1) kind r s false = _
        rw [ref_j0 (by omega), if_pos ⟨h1, by omega⟩]
      · rw [decide_eq_false h3]
        show watchwordref1_PutHead.j0 (k + 1) kind r s true = _
        rw [ref_j0t, if_neg (by unfold HeadOk; omega)]
    · rw [if_neg h2, ref_j0t, if_neg (by unfold HeadOk; omega)]
  · rw [if_neg h1, ref_j0t, if_neg (by unfold HeadOk; exact fun h => h1 h.1)]
/-- What a text's head tells. -/
def getHead (l : List Int) : Int × Int × Int × Int :=
  if l.length < 12 then (0, 0, 0, 800) else
  if HeadOk (l.getD 1 0) (num ((l.drop 4).take 4)) (num ((l.drop 2).take 2)) ∧ hdr (l.getD 1 0) (num ((l.drop 4).take 4)) (num ((l.drop 2).take 2)) = l.take 12
  then (l.getD 1 0, num ((l.drop 4).take 4), num ((l.drop 2).take 2), 0) else (0, 0, 0, 800)
theorem getHead_long {l : List Int} (h : ¬ l.length < 12) : getHead l = if HeadOk (l.getD 1 0) (num ((l.drop 4).take 4)) (num ((l.drop 2).take 2)) ∧ hdr (l.getD 1 0) (num ((l.drop 4).take 4)) (num ((l.drop 2).take 2)) = l.take 12
  then (l.getD 1 0, num ((l.drop 4).take 4), num ((l.drop 2).take 2), 0) else (0, 0, 0, 800) := by unfold getHead; rw [if_neg h]
theorem head_Get_f {k : Nat} (hk : 8 ≤ k) (s : ByteArray) : head_Get.f k s = some (getHead (B s)) := by
  have hl := B_len s
  unfold head_Get.f
  by_cases h : (s.size : Int) < 12
  · rw [if_pos h]; unfold getHead; rw [if_pos (by omega)]
  · rw [if_neg h, getHead_long (by omega)]
    have e12 : B (s.extract 0 12) = (B s).take 12 := by rw [B_extract]; rfl
    have sz12 : (s.extract 0 12).size = 12 := by rw [← B_len, e12, List.length_take]; omega
    have e48 : B ((s.extract 0 12).extract 4 8) = ((B s).drop 4).take 4 := by rw [B_extract, e12, List.drop_take, List.take_take]; rfl
    have e24 : B ((s.extract 0 12).extract 2 4) = ((B s).drop 2).take 2 := by rw [B_extract, e12, List.drop_take, List.take_take]; rfl
    have s48 : ((s.extract 0 12).extract 4 8).size ≤ 7 := by rw [← B_len, e48, List.length_take]; omega
    have s24 : ((s.extract 0 12).extract 2 4).size ≤ 7 := by rw [← B_len, e24, List.length_take]; omega
    have hb1 : bt (s.extract 0 12) 1 = (B s).getD 1 0 := by
      rw [bt_B, e12]; simp only [List.getD_eq_getElem?_getD, Int.toNat_one]
      rw [List.getElem?_take_of_lt (by omega)]
    have hr := byt_getD (B_byt s) 1
    have hw : wrap64 (bt (s.extract 0 12) 1) = (B s).getD 1 0 := by rw [hb1]; exact wrap_id (by omega) (by omega)
    rw [if_pos (by omega), if_pos (by omega), if_pos (by rw [sz12]; omega), if_pos (by omega), if_pos (by rw [sz12]; omega), lsa_Number_f s48 hk, Option.bind_some,
      if_pos (by omega), if_pos (by rw [sz12]; omega), lsa_Number_f s24 hk, Option.bind_some, head_Put_f (by omega), Option.bind_some, hw, e48, e24]
    by_cases h1 : HeadOk ((B s).getD 1 0) (num (((B s).drop 4).take 4)) (num (((B s).drop 2).take 2))
    · rw [if_pos h1]
      by_cases h2 : hdr ((B s).getD 1 0) (num (((B s).drop 4).take 4)) (num (((B s).drop 2).take 2)) = (B s).take 12
      · rw [if_pos rfl, if_pos (by rw [toList_iff, B_strOf (hdr_byt _ _ _), e12]; exact h2), if_pos ⟨h1, h2⟩]
      · rw [if_pos rfl, if_neg (by rw [toList_iff, B_strOf (hdr_byt _ _ _), e12]; exact h2), if_neg (fun hh => h2 hh.2)]
    · rw [if_neg h1, if_neg (by decide), if_neg (fun hh => h1 hh.1)]
theorem ref_GetHead_f {k : Nat} (hk : 8 ≤ k) (s : ByteArray) : watchwordref1_GetHead.f k s = some (getHead (B s)) := by
  have hl := B_len s
  unfold watchwordref1_GetHead.f
  by_cases h : (s.size : Int) < 12
  · rw [if_pos h]; unfold getHead; rw [if_pos (by omega)]
  · rw [if_neg h, getHead_long (by omega)]
    have e12 : B (s.extract 0 12) = (B s).take 12 := by rw [B_extract]; rfl
    have e48 : B (s.extract 4 8) = ((B s).drop 4).take 4 := by rw [B_extract]
    have e24 : B (s.extract 2 4) = ((B s).drop 2).take 2 := by rw [B_extract]
    have s48 : (s.extract 4 8).size ≤ 7 := by rw [← B_len, e48, List.length_take]; omega
    have s24 : (s.extract 2 4).size ≤ 7 := by rw [← B_len, e24, List.length_take]; omega
    have hr := byt_getD (B_byt s) 1
    have hw : wrap64 (bt s 1) = (B s).getD 1 0 := by
      have hb1 : bt s 1 = (B s).getD 1 0 := bt_B s 1
      rw [hb1]; exact wrap_id (by omega) (by omega)
    rw [if_pos (by omega), if_pos (by omega), if_pos (by omega), ref_Of_f s24 hk, Option.bind_some,
      if_pos (by omega), if_pos (by omega), ref_Of_f s48 hk, Option.bind_some, ref_PutHead_f hk, Option.bind_some, hw, e48, e24]
    by_cases h1 : HeadOk ((B s).getD 1 0) (num (((B s).drop 4).take 4)) (num (((B s).drop 2).take 2))
    · rw [if_pos h1]
      by_cases h2 : hdr ((B s).getD 1 0) (num (((B s).drop 4).take 4)) (num (((B s).drop 2).take 2)) = (B s).take 12
      · rw [if_pos rfl, if_pos (by omega), if_pos (by omega), if_pos (by rw [toList_iff, B_strOf (hdr_byt _ _ _), e12]; exact h2), if_pos ⟨h1, h2⟩]
      · rw [if_pos rfl, if_pos (by omega), if_pos (by omega), if_neg (by rw [toList_iff, B_strOf (hdr_byt _ _ _), e12]; exact h2), if_neg (fun hh => h2 hh.2)]
    · rw [if_neg h1, if_neg (by decide), if_neg (fun hh => h1 hh.1)]
/-- Numbers come back, whatever stands behind. -/
theorem get_hdr {kind r s : Int} (h : HeadOk kind r s) (more : List Int) : getHead (hdr kind r s ++ more) = (kind, r, s, 0) := by
  obtain ⟨h1, h2, h3, h4, h5⟩ := h
  have hk : kind % 256 = kind := by omega
  have e1 : (hdr kind r s ++ more).getD 1 0 = kind := by simp [hdr, hk]
  have e2' : ((hdr kind r s ++ more).drop 4).take 4 = e4 r := by simp [hdr, e2, e4]
  have e3 : ((hdr kind r s ++ more).drop 2).take 2 = e2 s := by simp [hdr, e2, e4]
  unfold getHead
  rw [if_neg (by rw [List.length_append, hdr_len]; omega), e1, e2', e3, num_e4 (by omega) (by omega), num_e2 (by omega) (by omega)]
  rw [if_pos ⟨⟨h1, by omega⟩, by rw [← hdr_len kind r s, List.take_left]⟩]
/-- The layer is awake. -/
theorem awake_ok {k : Nat} (hk : 100 ≤ k) : watchwordlaw8_awake.f k = some true :=
  at_rounds (g := fun k => watchwordlaw8_awake.f k) watchwordlaw8_awake.mono hk (by decide +kernel)

end Go.Proofs.Ytkfnbnfdcfcfpaa.L8
