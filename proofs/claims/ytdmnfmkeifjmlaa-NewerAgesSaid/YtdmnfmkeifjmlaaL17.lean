/- What the functions of the layer 'newer' come to. -/
import Derived.Test.YtdmnfmkeifjmlaaQ17x126
import Derived.Test.YtdmnfmkeifjmlaaQ17x125
import Derived.Test.YtdmnfmkeifjmlaaBase
namespace Go.Proofs.Ytdmnfmkeifjmlaa.L17
open Go.RowKit Go.Proofs.YtdmnfmkeifjmlaaW.PrintWords Go.Proofs.YtdmnfmkeifjmlaaW.PrintLast Go.Proofs.YtdmnfmkeifjmlaaW.PrintMore Go.Proofs.Ytdmnfmkeifjmlaa.Base Go.Proofs.Ytdmnfmkeifjmlaa.Q17
set_option linter.unusedVariables false
set_option linter.unusedSimpArgs false
/-! ### ack.Head -/
def AckOk (r s g m : Int) : Prop := 1 ≤ r ∧ r ≤ 4 ∧ 1 ≤ s ∧ s ≤ 2147483647 ∧ 0 ≤ g ∧ g ≤ 60 ∧ 0 ≤ m ∧ m ≤ 65535
instance (r s g m : Int) : Decidable (AckOk r s g m) := by unfold AckOk; infer_instance
theorem ack_Head_f (r s g m : Int) : ack_Head.f r s g m = some (decide (AckOk r s g m)) := by
  unfold ack_Head.f lsa_Router.f lsa_Serial.f lsa_Age.f AckOk
  by_cases h1 : r ≥ 1
  · by_cases h2 : r ≤ 4
    · by_cases h3 : s ≥ 1
      · by_cases h4 : s ≤ 2147483647
        · by_cases h5 : g ≥ 0
          · by_cases h6 : g ≤ 60
            · by_cases h7 : m ≥ 0
              · simp [h1, h2, h3, h4, h5, h6, h7]
              · simp [h1, h2, h3, h4, h5, h6, h7]
            · simp [h1, h2, h3, h4, h5, h6]
          · simp [h1, h2, h3, h4, h5]
        · simp [h1, h2, h3, h4]
      · simp [h1, h2, h3]
    · simp [h1, h2]
  · simp [h1]
/-! ### newer.Compare -/
def sgn (a b : Int) : Int := if a < b then -1 else if b < a then 1 else 0
def gone (g : Int) : Int := if g = 60 then 1 else 0
def cmp3 (s g m s' g' m' : Int) : Int := if s ≠ s' then sgn s s' else if m ≠ m' then sgn m m' else gone g - gone g'
theorem cmp_Compare_f (a b : Int) : cmp_Compare_int.f a b = some (sgn a b) := by
  have hn : ∀ x : Int, cmp_isNaN_int.f x = some false := by intro x; simp [cmp_isNaN_int.f]
  simp only [cmp_Compare_int.f, hn, Option.bind_some, Bool.false_eq_true, if_false]
  unfold sgn
  by_cases h1 : a < b
  · rw [if_pos h1, if_pos h1]
  · rw [if_neg h1, if_neg h1]
    by_cases h2 : a > b
    · rw [if_pos h2, if_pos (show b < a from h2)]
    · rw [if_neg h2, if_neg (show ¬ b < a from h2)]
theorem or_step (k : Nat) (l : List Int) (i : Nat) (h : i < l.length) (hl : l.length ≤ 100) :
    cmp_Or_int.l0 (k + 1) 0 l (l.length : Int) (i : Int) = if rd l (i : Int) = 0 then cmp_Or_int.l0 k 0 l (l.length : Int) ((i + 1 : Nat) : Int) else some (rd l (i : Int)) := by
  have w : wrap64 ((i : Int) + 1) = ((i + 1 : Nat) : Int) := by rw [wrap_id (by omega) (by omega)]; omega
  simp only [cmp_Or_int.l0]
  rw [if_pos (by omega), if_pos (by omega), if_pos (by omega), w]
theorem or_end (k : Nat) (l : List Int) : cmp_Or_int.l0 (k + 1) 0 l (l.length : Int) (l.length : Int) = some 0 := by
  simp only [cmp_Or_int.l0]
  rw [if_neg (by omega)]
theorem cmp_Or_f {k : Nat} (hk : 4 ≤ k) (x y z : Int) : cmp_Or_int.f k [x, y, z] = some (if x ≠ 0 then x else if y ≠ 0 then y else z) := by
  obtain ⟨k, rfl⟩ : ∃ m, k = m + 4 := ⟨k - 4, by omega⟩
  have s0 := or_step (k + 3) [x, y, z] 0 (by simp) (by simp)
  have s1 := or_step (k + 2) [x, y, z] 1 (by simp) (by simp)
  have s2 := or_step (k + 1) [x, y, z] 2 (by simp) (by simp)
  have s3 := or_end k [x, y, z]
  rw [show rd [x, y, z] ((0 : Nat) : Int) = x from rfl] at s0
  rw [show rd [x, y, z] ((1 : Nat) : Int) = y from rfl] at s1
  rw [show rd [x, y, z] ((2 : Nat) : Int) = z from rfl] at s2
  refine Eq.trans s0 ?_
  by_cases hx : x = 0
  · rw [if_pos hx, if_neg (fun h => h hx)]
    refine Eq.trans s1 ?_
    by_cases hy : y = 0
    · rw [if_pos hy, if_neg (fun h => h hy)]
      refine Eq.trans s2 ?_
      by_cases hz : z = 0
      · rw [if_pos hz, hz]; rw [hz] at s3; exact s3
      · rw [if_neg hz]
    · rw [if_neg hy, if_pos hy]
  · rw [if_neg hx, if_pos hx]
theorem gone_f (a b c d : Int) : newer_gone.f a b c d = some (gone c) := by
  unfold newer_gone.f gone; split <;> rfl
theorem gone_range (g : Int) : 0 ≤ gone g ∧ gone g ≤ 1 := by unfold gone; split <;> omega
theorem sgn_zero (a b : Int) : sgn a b = 0 ↔ a = b := by
  unfold sgn
  by_cases h1 : a < b
  · rw [if_pos h1]; omega
  · rw [if_neg h1]
    by_cases h2 : b < a
    · rw [if_pos h2]; omega
    · rw [if_neg h2]; omega
theorem or_cmp3 (s g m s' g' m' : Int) : (if sgn s s' ≠ 0 then sgn s s' else if sgn m m' ≠ 0 then sgn m m' else gone g - gone g') = cmp3 s g m s' g' m' := by
  unfold cmp3
  simp only [ne_eq, sgn_zero]
theorem newer_j0 {k : Nat} (hk : 4 ≤ k) (a0 a1 a2 a3 b0 b1 b2 b3 : Int) : newer_Compare.j0 (k + 1) false a0 a1 a2 a3 b0 b1 b2 b3 = some (cmp3 a1 a2 a3 b1 b2 b3, 0) := by
  have h1 := gone_range a2
  have h2 := gone_range b2
  have hw : wrap64 (gone a2 - gone b2) = gone a2 - gone b2 := wrap_id (by omega) (by omega)
  simp only [newer_Compare.j0, Bool.false_eq_true, if_false, cmp_Compare_f, gone_f, Option.bind_some, hw, cmp_Or_f hk, or_cmp3]
theorem newer_Compare_f {k : Nat} (hk : 5 ≤ k) (a0 a1 a2 a3 b0 b1 b2 b3 : Int) : newer_Compare.f k a0 a1 a2 a3 b0 b1 b2 b3 =
    some (if AckOk a0 a1 a2 a3 ∧ AckOk b0 b1 b2 b3 ∧ a0 = b0 then (cmp3 a1 a2 a3 b1 b2 b3, 0) else (0, 1700)) := by
  obtain ⟨k, rfl⟩ : ∃ m, k = m + 1 := ⟨k - 1, by omega⟩
  have ht : newer_Compare.j0 (k + 1) true a0 a1 a2 a3 b0 b1 b2 b3 = some (0, 1700) := by simp [newer_Compare.j0]
  simp only [newer_Compare.f, ack_Head_f, Option.bind_some, decide_eq_true_eq]
  by_cases h1 : AckOk a0 a1 a2 a3
  · rw [if_pos h1]
    by_cases h2 : AckOk b0 b1 b2 b3
    · rw [if_pos h2]
      by_cases h3 : a0 = b0
      · have : (a0 != b0) = false := by simp [h3]
        rw [this, newer_j0 (by omega), if_pos ⟨h1, h2, h3⟩]
      · have : (a0 != b0) = true := by simp [h3]
        rw [this, ht, if_neg (fun h => h3 h.2.2)]
    · rw [if_neg h2, ht, if_neg (fun h => h2 h.2.1)]
  · rw [if_neg h1, ht, if_neg (fun h => h1 h.1)]
/-! ### the reference's Compare -/
theorem ref9_upTo_f (a b c : Int) : watchwordref9_upTo.f a b c = some (decide (b ≤ a ∧ a ≤ c)) := by
  unfold watchwordref9_upTo.f
  by_cases h1 : a ≥ b
  · rw [if_pos h1]; simp only [h1, true_and]
  · rw [if_neg h1]; have : ¬ (b ≤ a ∧ a ≤ c) := by omega
    simp [this]
theorem ref_HeadMay_f (r s g m : Int) : watchwordref9_HeadMay.f r s g m = some (decide (AckOk r s g m)) := by
  unfold watchwordref9_HeadMay.f watchwordref9_routerMay.f
  simp only [ref9_upTo_f, Option.bind_some, decide_eq_true_eq]
  by_cases h1 : 1 ≤ r ∧ r ≤ 4
  · rw [if_pos h1]
    by_cases h2 : 1 ≤ s ∧ s ≤ 2147483647
    · rw [if_pos h2]
      by_cases h3 : 0 ≤ g ∧ g ≤ 60
      · rw [if_pos h3]; unfold AckOk; simp [h1, h2, h3]
      · rw [if_neg h3, decide_eq_false (fun hh : AckOk r s g m => h3 ⟨hh.2.2.2.2.1, hh.2.2.2.2.2.1⟩)]
    · rw [if_neg h2, decide_eq_false (fun hh : AckOk r s g m => h2 ⟨hh.2.2.1, hh.2.2.2.1⟩)]
  · rw [if_neg h1, decide_eq_false (fun hh : AckOk r s g m => h1 ⟨hh.1, hh.2.1⟩)]
theorem ref_sign_f (a b : Int) : watchwordref9_sign.f a b = some (sgn a b) := by
  unfold watchwordref9_sign.f sgn
  by_cases h1 : a > b
  · rw [if_pos h1, if_neg (by omega), if_pos (show b < a from h1)]
  · rw [if_neg h1]
    by_cases h2 : a < b
    · rw [if_pos h2, if_pos h2]
    · rw [if_neg h2, if_neg h2, if_neg (by omega)]
theorem ref_Compare_f {k : Nat} (hk : 1 ≤ k) (a0 a1 a2 a3 b0 b1 b2 b3 : Int) : watchwordref9_Compare.f k a0 a1 a2 a3 b0 b1 b2 b3 =
    some (if AckOk a0 a1 a2 a3 ∧ AckOk b0 b1 b2 b3 ∧ a0 = b0 then (cmp3 a1 a2 a3 b1 b2 b3, 0) else (0, 1700)) := by
  obtain ⟨k, rfl⟩ : ∃ m, k = m + 1 := ⟨k - 1, by omega⟩
  have ht : watchwordref9_Compare.j0 (k + 1) true a0 a1 a2 a3 b0 b1 b2 b3 = some (0, 1700) := by simp [watchwordref9_Compare.j0]
  simp only [watchwordref9_Compare.f, ref_HeadMay_f, Option.bind_some, decide_eq_true_eq]
  by_cases h1 : AckOk a0 a1 a2 a3
  · rw [if_pos h1]
    by_cases h2 : AckOk b0 b1 b2 b3
    · rw [if_pos h2]
      by_cases h3 : a0 = b0
      · have : (a0 != b0) = false := by simp [h3]
        rw [this, if_pos ⟨h1, h2, h3⟩]
        simp only [watchwordref9_Compare.j0, Bool.false_eq_true, if_false, ref_sign_f, Option.bind_some]
        unfold cmp3
        by_cases e1 : a1 = b1
        · rw [if_pos e1, if_neg (show ¬ (a1 ≠ b1) from fun h => h e1)]
          by_cases e3 : a3 = b3
          · rw [if_pos e3, if_neg (show ¬ (a3 ≠ b3) from fun h => h e3)]
            have g1 := h1.2.2.2.2.2.1
            have g2 := h2.2.2.2.2.2.1
            by_cases e2 : a2 = b2
            · rw [if_pos e2, e2, Int.sub_self]
            · rw [if_neg e2]
              by_cases q1 : a2 = 60
              · rw [if_pos q1]
                unfold sgn gone
                rw [if_neg (by omega), if_pos (by omega), if_pos q1, if_neg (by omega)]; rfl
              · rw [if_neg q1]
                by_cases q2 : b2 = 60
                · rw [if_pos q2]
                  unfold sgn gone
                  rw [if_pos (by omega), if_neg q1, if_pos q2]; rfl
                · rw [if_neg q2]
                  unfold gone
                  rw [if_neg q1, if_neg q2]; rfl
          · rw [if_neg e3, if_pos e3]
        · rw [if_neg e1, if_pos e1]
      · have : (a0 != b0) = true := by simp [h3]
        rw [this, ht, if_neg (fun h => h3 h.2.2)]
    · rw [if_neg h2, ht, if_neg (fun h => h2 h.2.1)]
  · rw [if_neg h1, ht, if_neg (fun h => h1 h.1)]
/-- The layer is awake. -/
theorem awake_ok {k : Nat} (hk : 100 ≤ k) : watchwordlaw17_awake.f k = some true :=
  at_rounds (g := fun k => watchwordlaw17_awake.f k) watchwordlaw17_awake.mono hk (by decide +kernel)

end Go.Proofs.Ytdmnfmkeifjmlaa.L17
