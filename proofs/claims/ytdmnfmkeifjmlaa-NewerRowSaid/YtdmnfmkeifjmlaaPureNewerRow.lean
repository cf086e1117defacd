/- NewerRow: of any two heads just one is newer, or neither; of any three what is newer than a newer one is newer; no condition beyond the row's own. -/
import Derived.Test.YtdmnfmkeifjmlaaQ17x108
import Derived.Test.YtdmnfmkeifjmlaaL17
namespace Go.Proofs.Ytdmnfmkeifjmlaa.Pure
open Go.RowKit Go.Proofs.YtdmnfmkeifjmlaaW.PrintWords Go.Proofs.YtdmnfmkeifjmlaaW.PrintLast Go.Proofs.YtdmnfmkeifjmlaaW.PrintMore Go.Proofs.Ytdmnfmkeifjmlaa.Base Go.Proofs.Ytdmnfmkeifjmlaa.Q17 Go.Proofs.Ytdmnfmkeifjmlaa.L17
set_option linter.unusedVariables false

def key (s g m : Int) : Int := s * 131072 + m * 2 + gone g
theorem cmp3_key {s g m s' g' m' : Int} (h : 0 ≤ m ∧ m ≤ 65535) (h' : 0 ≤ m' ∧ m' ≤ 65535) : cmp3 s g m s' g' m' = sgn (key s g m) (key s' g' m') := by
  have h1 := gone_range g
  have h2 := gone_range g'
  unfold cmp3 key
  by_cases e1 : s = s'
  · rw [if_neg (by simp [e1])]
    by_cases e2 : m = m'
    · rw [if_neg (by simp [e2])]
      unfold sgn
      by_cases l1 : gone g < gone g'
      · rw [if_pos (by rw [e1, e2]; omega)]; omega
      · by_cases l2 : gone g' < gone g
        · rw [if_neg (by rw [e1, e2]; omega), if_pos (by rw [e1, e2]; omega)]; omega
        · rw [if_neg (by rw [e1, e2]; omega), if_neg (by rw [e1, e2]; omega)]; omega
    · rw [if_pos e2]
      unfold sgn
      by_cases l1 : m < m'
      · rw [if_pos l1, if_pos (by rw [e1]; omega)]
      · rw [if_neg l1, if_pos (by omega), if_neg (by rw [e1]; omega), if_pos (by rw [e1]; omega)]
  · rw [if_pos e1]
    unfold sgn
    by_cases l1 : s < s'
    · rw [if_pos l1, if_pos (by omega)]
    · rw [if_neg l1, if_pos (by omega), if_neg (by omega), if_pos (by omega)]
theorem nr_true (k : Nat) (p q r : Int) : watchwordlaw17_NewerRow.j0 (k + 1) (sgn p q) (sgn q p) 0 (sgn q r) (sgn p r) 0 false = some true := by
  have w1 : wrap64 (-1) = -1 := wrap_id (by omega) (by omega)
  have w2' : wrap64 1 = 1 := wrap_id (by omega) (by omega)
  have w3' : wrap64 0 = 0 := wrap_id (by omega) (by omega)
  have w3 : wrap64 (-0) = 0 := by rw [Int.neg_zero]; exact w3'
  simp only [watchwordlaw17_NewerRow.j0, Bool.false_eq_true, if_false, watchwordlaw0_Num.f, Option.bind_some, if_true]
  have hs : ∀ x y : Int, x < y → sgn x y = -1 ∧ sgn y x = 1 := by
    intro x y h; unfold sgn; rw [if_pos h, if_neg (by omega), if_pos h]; exact ⟨rfl, rfl⟩
  have he : ∀ x : Int, sgn x x = 0 := by intro x; unfold sgn; rw [if_neg (by omega), if_neg (by omega)]
  rcases Int.lt_trichotomy p q with h1 | h1 | h1
  · rw [(hs p q h1).1, (hs p q h1).2]
    simp [w1]
  · subst h1
    rw [he p]
    simp only [w3, if_true]
    rw [if_neg (by decide)]
    by_cases h2 : sgn p r = 0
    · simp [h2]
    · simp [h2]
  · rw [(hs q p h1).1, (hs q p h1).2]
    rcases Int.lt_trichotomy q r with h2 | h2 | h2
    · rw [(hs q r h2).1]; simp [w2']
    · subst h2
      rw [he q, (hs q p h1).2]; simp [w2']
    · rw [(hs r q h2).2, (hs r p (by omega)).2]; simp [w2']
theorem nr_none (k : Nat) (x y f z w h : Int) (hx : x = 0 ∨ z = 0) : watchwordlaw17_NewerRow.j0 (k + 1) x y f z w h true = some true := by
  simp only [watchwordlaw17_NewerRow.j0, if_true]
  rcases hx with rfl | rfl
  · simp
  · by_cases h0 : x = 0 <;> simp [h0]
theorem NewerRow : ∀ (a0_0 : Int) (a0_1 : Int) (a0_2 : Int) (a0_3 : Int) (a1_0 : Int) (a1_1 : Int) (a1_2 : Int) (a1_3 : Int) (a2_0 : Int) (a2_1 : Int) (a2_2 : Int) (a2_3 : Int), (Lit.int .i64 a0_0).wf = true → (Lit.int .i64 a0_1).wf = true → (Lit.int .i64 a0_2).wf = true → (Lit.int .i64 a0_3).wf = true → (Lit.int .i64 a1_0).wf = true → (Lit.int .i64 a1_1).wf = true → (Lit.int .i64 a1_2).wf = true → (Lit.int .i64 a1_3).wf = true → (Lit.int .i64 a2_0).wf = true → (Lit.int .i64 a2_1).wf = true → (Lit.int .i64 a2_2).wf = true → (Lit.int .i64 a2_3).wf = true → ∃ k, watchwordlaw17_NewerRow.f k a0_0 a0_1 a0_2 a0_3 a1_0 a1_1 a1_2 a1_3 a2_0 a2_1 a2_2 a2_3 = some true := by
  intro a0 a1 a2 a3 b0 b1 b2 b3 c0 c1 c2 c3 _ _ _ _ _ _ _ _ _ _ _ _
  refine ⟨101, ?_⟩
  simp only [watchwordlaw17_NewerRow.f, newer_Compare_f (show 5 ≤ 101 by decide), watchwordlaw0_Num.f, Option.bind_some, if_true, awake_ok (show 100 ≤ 101 by decide)]
  by_cases h1 : AckOk a0 a1 a2 a3 ∧ AckOk b0 b1 b2 b3 ∧ a0 = b0
  · simp only [if_pos h1, if_true]
    by_cases h2 : AckOk b0 b1 b2 b3 ∧ AckOk c0 c1 c2 c3 ∧ b0 = c0
    · obtain ⟨ha, hb, rfl⟩ := h1
      obtain ⟨_, hc, rfl⟩ := h2
      have ma := ha.2.2.2.2.2.2
      have mb := hb.2.2.2.2.2.2
      have mc := hc.2.2.2.2.2.2
      rw [if_pos (show AckOk a0 b1 b2 b3 ∧ AckOk a0 a1 a2 a3 ∧ a0 = a0 from ⟨hb, ha, rfl⟩), if_pos (show AckOk a0 b1 b2 b3 ∧ AckOk a0 c1 c2 c3 ∧ a0 = a0 from ⟨hb, hc, rfl⟩), if_pos (show AckOk a0 a1 a2 a3 ∧ AckOk a0 c1 c2 c3 ∧ a0 = a0 from ⟨ha, hc, rfl⟩)]
      rw [show ((0 : Int) != 0) = false from by decide, cmp3_key ma mb, cmp3_key mb ma, cmp3_key mb mc, cmp3_key ma mc]
      exact nr_true 100 _ _ _
    · rw [if_neg h2, show ((1700 : Int) != 0) = true from by decide]
      exact nr_none 100 _ _ _ _ _ _ (Or.inr rfl)
  · rw [if_neg h1, if_neg (by decide)]
    exact nr_none 100 _ _ _ _ _ _ (Or.inl rfl)

end Go.Proofs.Ytdmnfmkeifjmlaa.Pure
