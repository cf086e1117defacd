/- What the functions of the layer 'hello' come to, in plain lists; the document's own, too. -/
import Derived.Test.YtkfnbnfdcfcfpaaQ9ax130
import Derived.Test.YtkfnbnfdcfcfpaaQ9ax107
import Derived.Test.YtkfnbnfdcfcfpaaBase
namespace Go.Proofs.Ytkfnbnfdcfcfpaa.L9a
open Go.RowKit Go.Proofs.YtkfnbnfdcfcfpaaW.PrintWords Go.Proofs.YtkfnbnfdcfcfpaaW.PrintLast Go.Proofs.YtkfnbnfdcfcfpaaW.PrintMore Go.Proofs.Ytkfnbnfdcfcfpaa.Base Go.Proofs.Ytkfnbnfdcfcfpaa.Q9a
set_option linter.unusedVariables false
set_option linter.unusedSimpArgs false
theorem lsa_One_f (x : Int) : lsa_One.f x = some (strOfNums (e1 x)) := rfl
/-! ### hello: May, Put, Get -/
theorem lsa_Router_f (x : Int) : lsa_Router.f x = some (decide (1 ≤ x ∧ x ≤ 4)) := by
  unfold lsa_Router.f
  by_cases h1 : x ≥ 1
  · rw [if_pos h1]; simp only [h1, true_and]
  · rw [if_neg h1]; have : ¬ (1 ≤ x ∧ x ≤ 4) := by omega
    simp [this]
/-- Routers that rise from behind p on. -/
def heard : Int → List Int → Bool
  | _, [] => true
  | p, x :: l => if 1 ≤ x ∧ x ≤ 4 ∧ p < x then heard x l else false
theorem heard_short : ∀ (l : List Int) (p : Int), 0 ≤ p → heard p l = true → l.length = 0 ∨ (l.length : Int) ≤ 4 - p
  | [], _, _, _ => .inl rfl
  | x :: l, p, h0, h => by
    unfold heard at h
    by_cases hc : 1 ≤ x ∧ x ≤ 4 ∧ p < x
    · rw [if_pos hc] at h
      rcases heard_short l x (by omega) h with h1 | h1
      · right; simp only [List.length_cons, h1]; omega
      · right; simp only [List.length_cons]; omega
    · rw [if_neg hc] at h; cases h
theorem heard_len {l : List Int} (h : heard 0 l = true) : l.length ≤ 4 := by
  rcases heard_short l 0 (by omega) h with h1 | h1 <;> omega
theorem heard_range : ∀ (l : List Int) (p : Int), heard p l = true → ∀ x ∈ l, 1 ≤ x ∧ x ≤ 4
  | [], _, _, _, hx => by cases hx
  | y :: l, p, h, x, hx => by
    unfold heard at h
    by_cases hc : 1 ≤ y ∧ y ≤ 4 ∧ p < y
    · rw [if_pos hc] at h
      rcases List.mem_cons.mp hx with rfl | hx
      · omega
      · exact heard_range l y h x hx
    · rw [if_neg hc] at h; cases h
theorem rd_at {l : List Int} {i : Nat} (h : i < l.length) : rd l (i : Int) = l[i] := by
  unfold rd; rw [Int.toNat_natCast, List.getD_eq_getElem?_getD, List.getElem?_eq_getElem h]; rfl
def prev (l : List Int) (i : Nat) : Int := if i = 0 then 0 else rd l ((i : Int) - 1)
theorem prev_succ (l : List Int) (i : Nat) : prev l (i + 1) = rd l (i : Int) := by unfold prev; rw [if_neg (by omega)]; congr 1; omega
theorem drop_at {l : List Int} {i : Nat} (h : i < l.length) : l.drop i = rd l (i : Int) :: l.drop (i + 1) := by
  rw [List.drop_eq_getElem_cons h, rd_at h]
theorem hello_May_l {l : List Int} (hn : l.length ≤ 9223372036854775807) : ∀ (d k i : Nat), i + d = l.length → d < k →
    hello_May.l0 k l l (l.length : Int) (i : Int) = some (heard (prev l i) (l.drop i)) := by
  intro d
  induction d with
  | zero =>
    intro k i hi hk
    obtain ⟨k, rfl⟩ : ∃ m, k = m + 1 := ⟨k - 1, by omega⟩
    simp only [hello_May.l0]
    rw [if_neg (by omega), List.drop_of_length_le (by omega)]
    rfl
  | succ d ih =>
    intro k i hi hk
    obtain ⟨k, rfl⟩ : ∃ m, k = m + 1 := ⟨k - 1, by omega⟩
    have hlt : i < l.length := by omega
    have h4 : wrap64 ((i : Int) + 1) = ((i + 1 : Nat) : Int) := by rw [wrap_id (by omega) (by omega)]; omega
    have h5 : wrap64 ((i : Int) - 1) = (i : Int) - 1 := wrap_id (by omega) (by omega)
    have hr := ih k (i + 1) (by omega) (by omega)
    simp only [hello_May.l0, lsa_Router_f, Option.bind_some, decide_eq_true_eq]
    rw [if_pos (by omega), if_pos (by omega), if_pos (by omega), h4, h5, hr, prev_succ, drop_at hlt]
    by_cases hc : 1 ≤ rd l (i : Int) ∧ rd l (i : Int) ≤ 4
    · rw [if_pos hc]
      by_cases h0 : (i : Int) > 0
      · rw [if_pos h0, if_pos (by omega), if_pos (by omega)]
        have hp : prev l i = rd l ((i : Int) - 1) := by unfold prev; rw [if_neg (by omega)]
        by_cases hg : rd l ((i : Int) - 1) ≥ rd l (i : Int)
        · rw [if_pos hg]; unfold heard; rw [if_neg (by rw [hp]; omega)]
        · rw [if_neg hg]; conv => rhs; unfold heard
          rw [if_pos (by rw [hp]; omega)]
      · rw [if_neg h0]
        have hp : prev l i = 0 := by unfold prev; rw [if_pos (by omega)]
        conv => rhs; unfold heard
        rw [if_pos (by rw [hp]; omega)]
    · rw [if_neg hc]; unfold heard; rw [if_neg (fun hh => hc ⟨hh.1, hh.2.1⟩)]
theorem hello_May_f {l : List Int} (hn : l.length ≤ 9223372036854775807) {k : Nat} (hk : l.length < k) : hello_May.f k l = some (heard 0 l) :=
  hello_May_l hn l.length k 0 (by omega) hk
theorem hello_Put_l {l : List Int} (hn : l.length ≤ 4) (hr : ∀ x ∈ l, 1 ≤ x ∧ x ≤ 4) : ∀ (d k i : Nat) (acc : List Int), i + d = l.length → d < k → acc.length ≤ 10 + i →
    hello_Put.l0 k (strOfNums acc) l (l.length : Int) (i : Int) = some (strOfNums (acc ++ l.drop i), 0) := by
  intro d
  induction d with
  | zero =>
    intro k i acc hi hk ha
    obtain ⟨k, rfl⟩ : ∃ m, k = m + 1 := ⟨k - 1, by omega⟩
    simp only [hello_Put.l0]
    rw [if_neg (by omega), List.drop_of_length_le (by omega), List.append_nil]
  | succ d ih =>
    intro k i acc hi hk ha
    obtain ⟨k, rfl⟩ : ∃ m, k = m + 1 := ⟨k - 1, by omega⟩
    have hlt : i < l.length := by omega
    have h4 : wrap64 ((i : Int) + 1) = ((i + 1 : Nat) : Int) := by rw [wrap_id (by omega) (by omega)]; omega
    have hx := hr (rd l (i : Int)) (by rw [rd_at hlt]; exact List.getElem_mem hlt)
    have he : e1 (rd l (i : Int)) = [rd l (i : Int)] := by unfold e1; congr 1; omega
    simp only [hello_Put.l0, lsa_One_f, Option.bind_some, strOf_append, strOf_size, e1_len]
    rw [if_pos (by omega), if_pos (by omega), if_pos (by omega), if_pos (by omega), h4, ih k (i + 1) _ (by omega) (by omega) (by simp only [List.length_append, e1_len]; omega), he, drop_at hlt, List.append_assoc]
    rfl
def helloBytes (l : List Int) : List Int := (l.length : Int) :: l
theorem helloBytes_byt {l : List Int} (h : heard 0 l = true) : Byt (helloBytes l) := by
  have h1 := heard_len h
  refine byt_cons (by omega) (fun x hx => ?_)
  have := heard_range l 0 h x hx
  omega
theorem hello_Put_f {l : List Int} (hn : l.length ≤ 9223372036854775807) {k : Nat} (hk : l.length < k) :
    hello_Put.f k l = some (if heard 0 l = true then (strOfNums (helloBytes l), 0) else (⟨#[]⟩, 900)) := by
  simp only [hello_Put.f, hello_May_f hn hk, Option.bind_some, lsa_One_f]
  by_cases h : heard 0 l = true
  · rw [if_pos h, if_pos h]
    have h1 := heard_len h
    have := hello_Put_l h1 (heard_range l 0 h) l.length k 0 (e1 (l.length : Int)) (by omega) hk (by rw [e1_len]; omega)
    rw [Int.natCast_zero] at this
    rw [this]
    have he : e1 (l.length : Int) = [(l.length : Int)] := by unfold e1; congr 1; omega
    rw [he]; rfl
  · rw [if_neg h, if_neg h]
def getHello (b : List Int) : List Int × Int := if heard 0 (b.drop 1) = true ∧ helloBytes (b.drop 1) = b then (b.drop 1, 0) else ([], 900)
theorem hello_Get_end {s : ByteArray} (hs : s.size ≤ 17592186044416) {k : Nat} (hk : s.size < k) :
    ((hello_Put.f k ((B s).drop 1)).bind fun bt145 => (if bt145.2 = 0 then (if bt145.1.toList = s.toList then (some ((B s).drop 1, 0)) else (some (([] : List Int), 900))) else (some (([] : List Int), 900)))) = some (getHello (B s)) := by
  have hl := B_len s
  have hd : ((B s).drop 1).length ≤ s.size := by rw [List.length_drop]; omega
  rw [hello_Put_f (by omega) (by omega), Option.bind_some]
  unfold getHello
  by_cases h : heard 0 ((B s).drop 1) = true
  · rw [if_pos h]
    by_cases h2 : helloBytes ((B s).drop 1) = B s
    · rw [if_pos rfl, if_pos (by rw [toList_iff, B_strOf (helloBytes_byt h)]; exact h2), if_pos ⟨h, h2⟩]
    · rw [if_pos rfl, if_neg (by rw [toList_iff, B_strOf (helloBytes_byt h)]; exact h2), if_neg (fun hh => h2 hh.2)]
  · rw [if_neg h, if_neg (by decide), if_neg (fun hh => h hh.1)]
theorem hello_Get_l {s : ByteArray} (hs : s.size ≤ 17592186044416) : ∀ (d k i : Nat) (acc : List Int), i + d = s.size → d + s.size + 1 < k → acc = ((B s).take i).drop 1 →
    hello_Get.l0 k s acc (s.size : Int) (i : Int) = some (getHello (B s)) := by
  intro d
  induction d with
  | zero =>
    intro k i acc hi hk ha
    obtain ⟨k, rfl⟩ : ∃ m, k = m + 1 := ⟨k - 1, by omega⟩
    simp only [hello_Get.l0]
    have ht : (B s).take i = B s := List.take_of_length_le (by rw [B_len]; omega)
    rw [if_neg (by omega), ha, ht, hello_Get_end hs (by omega)]
  | succ d ih =>
    intro k i acc hi hk ha
    obtain ⟨k, rfl⟩ : ∃ m, k = m + 1 := ⟨k - 1, by omega⟩
    have hl := B_len s
    have h4 : wrap64 ((i : Int) + 1) = ((i + 1 : Nat) : Int) := by rw [wrap_id (by omega) (by omega)]; omega
    have hlt : i < (B s).length := by omega
    have hr := byt_getD (B_byt s) i
    have hb : wrap64 (bt s (i : Int)) = (B s).getD i 0 := by rw [bt_B, Int.toNat_natCast]; exact wrap_id (by omega) (by omega)
    have hx : (B s).getD i 0 = (B s)[i] := by rw [List.getD_eq_getElem?_getD, List.getElem?_eq_getElem hlt]; rfl
    have ht : (B s).take (i + 1) = (B s).take i ++ [(B s)[i]] := List.take_succ_eq_append_getElem hlt
    have hal : acc.length < 17592186044416 := by rw [ha, List.length_drop, List.length_take]; omega
    simp only [hello_Get.l0]
    rw [if_pos (by omega)]
    by_cases h0 : (i : Int) > 0
    · rw [if_pos h0, if_pos (by omega), if_pos (by omega), if_pos (by omega), hb, h4]
      refine ih k (i + 1) _ (by omega) (by omega) ?_
      rw [ht, ha, List.drop_append_of_le_length (by rw [List.length_take]; omega), hx]
    · rw [if_neg h0, h4]
      refine ih k (i + 1) _ (by omega) (by omega) ?_
      have : i = 0 := by omega
      subst this
      rw [ha, List.drop_of_length_le (by rw [List.length_take]; omega), List.drop_of_length_le (by rw [List.length_take]; omega)]
theorem hello_Get_f {s : ByteArray} (hs : s.size ≤ 17592186044416) {k : Nat} (hk : 2 * s.size + 1 < k) : hello_Get.f k s = some (getHello (B s)) :=
  hello_Get_l hs s.size k 0 [] (by omega) (by omega) (by simp)
theorem get_put {l : List Int} (h : heard 0 l = true) : getHello (helloBytes l) = (l, 0) := by
  unfold getHello helloBytes
  rw [if_pos ⟨h, rfl⟩]; rfl
/-! ### SameInts -/
theorem SameInts_l {l m : List Int} (hn : l.length ≤ 9223372036854775807) (he : l.length = m.length) : ∀ (d k i : Nat), i + d = l.length → d < k →
    watchwordlaw0_SameInts.l0 k l m (i : Int) = some (decide (l.drop i = m.drop i)) := by
  intro d
  induction d with
  | zero =>
    intro k i hi hk
    obtain ⟨k, rfl⟩ : ∃ m, k = m + 1 := ⟨k - 1, by omega⟩
    simp only [watchwordlaw0_SameInts.l0]
    rw [if_neg (by omega), List.drop_of_length_le (by omega), List.drop_of_length_le (by omega)]
    rfl
  | succ d ih =>
    intro k i hi hk
    obtain ⟨k, rfl⟩ : ∃ m, k = m + 1 := ⟨k - 1, by omega⟩
    have h4 : wrap64 ((i : Int) + 1) = ((i + 1 : Nat) : Int) := by rw [wrap_id (by omega) (by omega)]; omega
    simp only [watchwordlaw0_SameInts.l0]
    rw [if_pos (by omega), if_pos (by omega), if_pos (by omega), h4, ih k (i + 1) (by omega) (by omega), drop_at (l := l) (i := i) (by omega), drop_at (l := m) (i := i) (by omega)]
    by_cases hc : rd l (i : Int) = rd m (i : Int)
    · rw [if_pos hc, hc]; simp only [List.cons.injEq, true_and]
    · rw [if_neg hc]; simp only [List.cons.injEq, hc, false_and, decide_false]
theorem SameInts_f {l m : List Int} (hn : l.length ≤ 9223372036854775807) {k : Nat} (hk : l.length < k) : watchwordlaw0_SameInts.f k l m = some (decide (l = m)) := by
  unfold watchwordlaw0_SameInts.f
  by_cases h : l.length = m.length
  · rw [if_pos (by omega)]
    exact SameInts_l hn h l.length k 0 (by omega) hk
  · rw [if_neg (by omega), decide_eq_false (fun e => h (by rw [e]))]
/-! ### the document's own: HeardMay, PutHello, GetHello -/
theorem rh_upTo (x a b : Int) : watchwordref9_upTo.f x a b = some (decide (a ≤ x ∧ x ≤ b)) := by
  unfold watchwordref9_upTo.f
  by_cases h : x ≥ a
  · rw [if_pos h]; simp [show a ≤ x from h]
  · rw [if_neg h]; simp [show ¬ a ≤ x from h]
theorem rh_router (x : Int) : watchwordref9_routerMay.f x = some (decide (1 ≤ x ∧ x ≤ 4)) := by
  unfold watchwordref9_routerMay.f; rw [rh_upTo]; rfl
theorem rh_May_l {l : List Int} (hn : l.length ≤ 9223372036854775807) : ∀ (d k i : Nat), i + d = l.length → d < k →
    watchwordref9_HeardMay.l0 k l (i : Int) = some (heard (prev l i) (l.drop i) && decide (l.length ≤ 4)) := by
  intro d
  induction d with
  | zero =>
    intro k i hi hk
    obtain ⟨k, rfl⟩ : ∃ m, k = m + 1 := ⟨k - 1, by omega⟩
    simp only [watchwordref9_HeardMay.l0]
    rw [if_neg (by omega), List.drop_of_length_le (by omega)]
    unfold heard
    rw [Bool.true_and]
    congr 1
    rw [Bool.eq_iff_iff, decide_eq_true_eq, decide_eq_true_eq]
    omega
  | succ d ih =>
    intro k i hi hk
    obtain ⟨k, rfl⟩ : ∃ m, k = m + 1 := ⟨k - 1, by omega⟩
    have hlt : i < l.length := by omega
    have h4 : wrap64 ((i : Int) + 1) = ((i + 1 : Nat) : Int) := by rw [wrap_id (by omega) (by omega)]; omega
    have h5 : wrap64 ((i : Int) - 1) = (i : Int) - 1 := wrap_id (by omega) (by omega)
    have hr := ih k (i + 1) (by omega) (by omega)
    simp only [watchwordref9_HeardMay.l0, rh_router, Option.bind_some, decide_eq_true_eq]
    rw [if_pos (by omega), if_pos (by omega), h4, h5, hr, prev_succ, drop_at hlt]
    by_cases hc : 1 ≤ rd l (i : Int) ∧ rd l (i : Int) ≤ 4
    · rw [if_pos hc]
      by_cases h0 : (i : Int) > 0
      · rw [if_pos h0, if_pos (by omega), if_pos (by omega)]
        have hp : prev l i = rd l ((i : Int) - 1) := by unfold prev; rw [if_neg (by omega)]
        by_cases hg : rd l (i : Int) ≤ rd l ((i : Int) - 1)
        · rw [if_pos hg]; unfold heard; rw [if_neg (by rw [hp]; omega)]; rfl
        · rw [if_neg hg]; conv => rhs; unfold heard
          rw [if_pos ⟨hc.1, hc.2, by rw [hp]; omega⟩]
      · rw [if_neg h0]
        have hp : prev l i = 0 := by unfold prev; rw [if_pos (by omega)]
        conv => rhs; unfold heard
        rw [if_pos ⟨hc.1, hc.2, by rw [hp]; omega⟩]
    · rw [if_neg hc]; unfold heard; rw [if_neg (fun hh => hc ⟨hh.1, hh.2.1⟩)]; rfl
theorem rh_May_f {l : List Int} (hn : l.length ≤ 9223372036854775807) {k : Nat} (hk : l.length < k) : watchwordref9_HeardMay.f k l = some (heard 0 l) := by
  have h := rh_May_l hn l.length k 0 (by omega) hk
  unfold watchwordref9_HeardMay.f
  rw [show (0 : Int) = ((0 : Nat) : Int) from rfl, h]
  show some (heard 0 l && decide (l.length ≤ 4)) = some (heard 0 l)
  by_cases g : heard 0 l = true
  · rw [g, decide_eq_true (heard_len g)]; rfl
  · rw [Bool.eq_false_iff.mpr g]; rfl
theorem rh_Put_l {l : List Int} (hn : l.length ≤ 4) (hr : ∀ x ∈ l, 1 ≤ x ∧ x ≤ 4) : ∀ (d k i : Nat) (acc : List Int), i + d = l.length → d < k → acc.length ≤ 10 + i →
    watchwordref9_PutHello.l0 k l acc (i : Int) = some (strOfNums (acc ++ l.drop i), 0) := by
  intro d
  induction d with
  | zero =>
    intro k i acc hi hk ha
    obtain ⟨k, rfl⟩ : ∃ m, k = m + 1 := ⟨k - 1, by omega⟩
    simp only [watchwordref9_PutHello.l0]
    rw [if_neg (by omega), List.drop_of_length_le (by omega), List.append_nil]
  | succ d ih =>
    intro k i acc hi hk ha
    obtain ⟨k, rfl⟩ : ∃ m, k = m + 1 := ⟨k - 1, by omega⟩
    have hlt : i < l.length := by omega
    have h4 : wrap64 ((i : Int) + 1) = ((i + 1 : Nat) : Int) := by rw [wrap_id (by omega) (by omega)]; omega
    have hx := hr (rd l (i : Int)) (by rw [rd_at hlt]; exact List.getElem_mem hlt)
    simp only [watchwordref9_PutHello.l0]
    rw [if_pos (by omega), if_pos (by omega), if_pos (by omega), h4, Int.emod_eq_of_lt (by omega) (by omega), ih k (i + 1) _ (by omega) (by omega) (by rw [List.length_append]; simp only [List.length_cons, List.length_nil]; omega), drop_at hlt, List.append_assoc]
    rfl
theorem rh_Put_f {l : List Int} (hn : l.length ≤ 9223372036854775807) {k : Nat} (hk : l.length < k) :
    watchwordref9_PutHello.f k l = some (if heard 0 l = true then (strOfNums (helloBytes l), 0) else (⟨#[]⟩, 900)) := by
  simp only [watchwordref9_PutHello.f, rh_May_f hn hk, Option.bind_some]
  by_cases h : heard 0 l = true
  · have h4 := heard_len h
    rw [if_pos h, if_pos h, Int.emod_eq_of_lt (by omega) (by omega), show (0 : Int) = ((0 : Nat) : Int) from rfl, rh_Put_l h4 (heard_range l 0 h) l.length k 0 _ (by omega) hk (by simp only [List.length_cons, List.length_nil]; omega)]
    rfl
  · rw [if_neg h, if_neg h]
def rhEnd (b xs : List Int) : List Int × Int := if b ≠ [] ∧ b.getD 0 0 = (xs.length : Int) ∧ heard 0 xs = true then (xs, 0) else ([], 900)
theorem rh_Get_l {s : ByteArray} (hs : s.size ≤ 17592186044416) : ∀ (d k i : Nat) (acc : List Int), 1 ≤ i → (i + d = s.size ∨ (d = 0 ∧ s.size ≤ i)) → i ≤ 17592186044416 → d + s.size + 1 < k → acc = ((B s).take i).drop 1 →
    watchwordref9_GetHello.l0 k s acc (i : Int) = some (rhEnd (B s) ((B s).drop 1)) := by
  intro d
  induction d with
  | zero =>
    intro k i acc h1 hi hi2 hk ha
    obtain ⟨k, rfl⟩ : ∃ m, k = m + 1 := ⟨k - 1, by omega⟩
    have hl := B_len s
    have hacc : acc = (B s).drop 1 := by rw [ha, List.take_of_length_le (by omega)]
    have hr := byt_getD (B_byt s) 0
    simp only [watchwordref9_GetHello.l0]
    rw [if_neg (by omega), hacc]
    unfold rhEnd
    by_cases h0 : s.size = 0
    · have hB : B s = [] := List.eq_nil_of_length_eq_zero (by rw [hl]; exact h0)
      rw [if_pos ((toList_iff_lit s []).mpr (by rw [hB]; rfl)), if_neg (fun hh => hh.1 hB)]
    · have hB : B s ≠ [] := fun e => h0 (by rw [← hl, e]; rfl)
      have hlen : ((B s).drop 1).length = s.size - 1 := by rw [List.length_drop, hl]
      rw [if_neg (fun e => hB (by have := (toList_iff_lit s []).mp e; rw [this]; rfl)), if_pos (by omega), show bt s 0 = (B s).getD 0 0 from by rw [bt_B]; rfl, wrap_id (by omega) (by omega)]
      by_cases h1 : (B s).getD 0 0 = (((B s).drop 1).length : Int)
      · rw [if_pos h1, rh_May_f (by omega) (by omega), Option.bind_some]
        by_cases h2 : heard 0 ((B s).drop 1) = true
        · rw [if_pos h2, if_pos ⟨hB, h1, h2⟩]
        · rw [if_neg h2, if_neg (fun hh => h2 hh.2.2)]
      · rw [if_neg h1, if_neg (fun hh => h1 hh.2.1)]
  | succ d ih =>
    intro k i acc h1 hi hi2 hk ha
    obtain ⟨k, rfl⟩ : ∃ m, k = m + 1 := ⟨k - 1, by omega⟩
    have hl := B_len s
    have hlt : i < (B s).length := by omega
    have h4 : wrap64 ((i : Int) + 1) = ((i + 1 : Nat) : Int) := by rw [wrap_id (by omega) (by omega)]; omega
    have hal : acc.length < 17592186044416 := by rw [ha, List.length_drop, List.length_take]; omega
    have hr := byt_getD (B_byt s) i
    have hbt : wrap64 (bt s (i : Int)) = (B s).getD i 0 := by rw [bt_B, Int.toNat_natCast]; exact wrap_id (by omega) (by omega)
    have hx : (B s).getD i 0 = (B s)[i] := by rw [List.getD_eq_getElem?_getD, List.getElem?_eq_getElem hlt]; rfl
    have ht : (B s).take (i + 1) = (B s).take i ++ [(B s)[i]] := List.take_succ_eq_append_getElem hlt
    simp only [watchwordref9_GetHello.l0]
    rw [if_pos (by omega), if_pos (by omega), if_pos hal, h4, hbt]
    refine ih k (i + 1) _ (by omega) (by omega) (by omega) (by omega) ?_
    rw [ht, ha, List.drop_append_of_le_length (by rw [List.length_take]; omega), hx]
theorem rh_end_eq (b : List Int) : rhEnd b (b.drop 1) = getHello b := by
  unfold rhEnd getHello
  have e : (b ≠ [] ∧ b.getD 0 0 = ((b.drop 1).length : Int) ∧ heard 0 (b.drop 1) = true) ↔ (heard 0 (b.drop 1) = true ∧ helloBytes (b.drop 1) = b) := by
    cases b with
    | nil => simp [helloBytes]
    | cons c r =>
      constructor
      · rintro ⟨_, h1, h2⟩
        refine ⟨h2, ?_⟩
        have h1' : c = (r.length : Int) := h1
        show (r.length : Int) :: r = c :: r
        rw [h1']
      · rintro ⟨h2, h1⟩
        refine ⟨by simp, ?_, h2⟩
        have h1' : (r.length : Int) :: r = c :: r := h1
        show c = (r.length : Int)
        exact (List.cons.inj h1').1.symm
  by_cases h : heard 0 (b.drop 1) = true ∧ helloBytes (b.drop 1) = b
  · rw [if_pos h, if_pos (e.mpr h)]
  · rw [if_neg h, if_neg (fun hh => h (e.mp hh))]
theorem rh_Get_f {s : ByteArray} (hs : s.size ≤ 17592186044415) {k : Nat} (hk : 2 * s.size + 5 < k) : watchwordref9_GetHello.f k s = some (getHello (B s)) := by
  unfold watchwordref9_GetHello.f
  rw [show (1 : Int) = ((1 : Nat) : Int) from rfl, rh_Get_l (by omega) (s.size - 1) k 1 [] (by omega) (by omega) (by omega) (by omega) (by
    cases h : B s with
    | nil => rfl
    | cons c r => rfl), rh_end_eq]
/-- The layer is awake. -/
theorem awake_ok {k : Nat} (hk : 100 ≤ k) : watchwordlaw9_awake.f k = some true :=
  at_rounds (g := fun k => watchwordlaw9_awake.f k) watchwordlaw9_awake.mono hk (by decide +kernel)

end Go.Proofs.Ytkfnbnfdcfcfpaa.L9a
