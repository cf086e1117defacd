/- LsaUnlike: of any two Lsas, the bytes are the same where they are the same, and no bytes are told of one that may not be; no condition beyond the row's own. -/
import Derived.Test.YtmcajcomoegkdaaQ7x106
import Derived.Test.YtmcajcomoegkdaaL7
import Derived.Test.YtmcajcomoegkdaaO7
namespace Go.Proofs.Ytmcajcomoegkdaa.Pure
open Go.RowKit Go.Proofs.YtmcajcomoegkdaaW.PrintWords Go.Proofs.YtmcajcomoegkdaaW.PrintLast Go.Proofs.YtmcajcomoegkdaaW.PrintMore Go.Proofs.Ytmcajcomoegkdaa.Base Go.Proofs.Ytmcajcomoegkdaa.Q7 Go.Proofs.Ytmcajcomoegkdaa.L7 Go.Proofs.Ytmcajcomoegkdaa.O7
set_option linter.unusedVariables false

theorem lu_num (x : Int) : watchwordlaw0_Num.f x = some x := rfl
theorem lu_same {r s g r' s' g' : Int} {l l' : List S49} (h : LsaOk r s g l) (h' : LsaOk r' s' g' l') :
    ((strOfNums (putB r s g l)).toList == (strOfNums (putB r' s' g' l')).toList) = decide (r = r' ∧ s = s' ∧ g = g' ∧ l = l') := by
  rw [Bool.eq_iff_iff, beq_iff_eq, decide_eq_true_eq, toList_iff, B_strOf (putB_byt _ _ _ _), B_strOf (putB_byt _ _ _ _)]
  constructor
  · intro e
    have h1 := get_put h []
    rw [e, get_put h' []] at h1
    simp only [Option.some.injEq, Prod.mk.injEq] at h1
    obtain ⟨rfl, rfl, rfl, rfl, _⟩ := h1
    exact ⟨rfl, rfl, rfl, rfl⟩
  · rintro ⟨rfl, rfl, rfl, rfl⟩; rfl
theorem LsaUnlike : ∀ (a0_0 : Int) (a0_1 : Int) (a0_2 : Int) (l0_3 : List (S49)) (a1_0 : Int) (a1_1 : Int) (a1_2 : Int) (l1_3 : List (S49)), (Lit.int .i64 a0_0).wf = true → (Lit.int .i64 a0_1).wf = true → (Lit.int .i64 a0_2).wf = true → (l0_3.length * 16 ≤ 140737488351232 ∧ l0_3.length ≤ maxLen ∧ ∀ y ∈ l0_3, R49 y) → (Lit.int .i64 a1_0).wf = true → (Lit.int .i64 a1_1).wf = true → (Lit.int .i64 a1_2).wf = true → (l1_3.length * 16 ≤ 140737488351232 ∧ l1_3.length ≤ maxLen ∧ ∀ y ∈ l1_3, R49 y) → ∃ k, watchwordlaw7_LsaUnlike.f k a0_0 a0_1 a0_2 l0_3 a1_0 a1_1 a1_2 l1_3 = some true := by
  intro r s g l r' s' g' l' _ _ _ hl _ _ _ hl'
  refine ⟨l.length + l'.length + 701, ?_⟩
  have hn : l.length ≤ 140737488351232 := by omega
  have hn' : l'.length ≤ 140737488351232 := by omega
  simp only [watchwordlaw7_LsaUnlike.f, awake_ok (show 700 ≤ l.length + l'.length + 701 by omega), lsa_Put_f (show l.length ≤ 9223372036854775807 by omega) (show l.length < l.length + l'.length + 701 by omega) (show 20 ≤ l.length + l'.length + 701 by omega),
    lsa_Put_f (show l'.length ≤ 9223372036854775807 by omega) (show l'.length < l.length + l'.length + 701 by omega) (show 20 ≤ l.length + l'.length + 701 by omega), lu_num, Option.bind_some, if_true]
  by_cases h : LsaOk r s g l
  · by_cases h' : LsaOk r' s' g' l'
    · rw [if_pos h, if_pos h', if_pos rfl, show ((((strOfNums (putB r' s' g' l'), (0 : Int)).2 : Int) != 0) : Bool) = false from rfl]
      simp only [watchwordlaw7_LsaUnlike.j0, Bool.false_eq_true, if_false, SameLsa_f (show l.length ≤ 9223372036854775807 by omega) (show l.length < l.length + l'.length + 700 by omega), Option.bind_some, lu_same h h', beq_self_eq_true]
    · rw [if_pos h, if_neg h', if_pos rfl, show ((((⟨#[]⟩ : ByteArray), (700 : Int)).2 != 0) : Bool) = true from rfl]
      simp only [watchwordlaw7_LsaUnlike.j0, if_true, lu_num, Option.bind_some, empty_list]
      rw [if_neg (by decide)]; rfl
  · by_cases h' : LsaOk r' s' g' l'
    · rw [if_neg h, if_pos h', if_neg (by decide)]
      simp only [watchwordlaw7_LsaUnlike.j0, if_true, lu_num, Option.bind_some, empty_list]
      rw [if_neg (by decide)]
    · rw [if_neg h, if_neg h', if_neg (by decide)]
      simp only [watchwordlaw7_LsaUnlike.j0, if_true, lu_num, Option.bind_some, empty_list]
      rw [if_neg (by decide), if_neg (by decide)]; rfl

end Go.Proofs.Ytmcajcomoegkdaa.Pure
