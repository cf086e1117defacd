/- TrailerBack: for any trailer and any text, a trailer that trailer.Put takes comes back from trailer.Get, and a text that trailer.Get takes is what trailer.Put makes of its trailer; no condition beyond the row's own. -/
import Derived.Test.YtkfnbnfdcfcfpaaQ13x10
import Derived.Test.YtkfnbnfdcfcfpaaL13
namespace Go.Proofs.Ytkfnbnfdcfcfpaa.Pure
open Go.RowKit Go.Proofs.YtkfnbnfdcfcfpaaW.PrintWords Go.Proofs.YtkfnbnfdcfcfpaaW.PrintLast Go.Proofs.YtkfnbnfdcfcfpaaW.PrintMore Go.Proofs.Ytkfnbnfdcfcfpaa.Base Go.Proofs.Ytkfnbnfdcfcfpaa.Q13 Go.Proofs.Ytkfnbnfdcfcfpaa.L13
set_option linter.unusedVariables false

theorem tb_j0 {k : Nat} (hk : 8 ≤ k) (s : ByteArray) : watchwordlaw13_TrailerBack.j0 (k + 1) s = some true := by
  simp only [watchwordlaw13_TrailerBack.j0, trailer_Get_f hk, trailer_Put_f, trailer_May_f, watchwordlaw0_Num.f, Option.bind_some]
  by_cases h : (getTrailer s).2.2.2.2 = 0
  · obtain ⟨h1, h2⟩ := get_trl_ok h
    rw [if_pos h]
    unfold putTrailer
    rw [if_pos h1, if_pos rfl, if_pos (by rw [h2]), decide_eq_true h1]
  · rw [if_neg h, get_trl_no h]
    decide +kernel
theorem TrailerBack : ∀ (a0_0 : Int) (a0_1 : Int) (a0_2 : Int) (a0_3 : ByteArray) (a1 : ByteArray), (Lit.int .i64 a0_0).wf = true → (Lit.int .i64 a0_1).wf = true → (Lit.int .i64 a0_2).wf = true → a0_3.size ≤ 140737488351232 → a1.size ≤ 140737488351232 → ∃ k, watchwordlaw13_TrailerBack.f k a0_0 a0_1 a0_2 a0_3 a1 = some true := by
  intro a0 a1 a2 a3 s _ _ _ _ _
  refine ⟨101, ?_⟩
  simp only [watchwordlaw13_TrailerBack.f, awake_ok (show 100 ≤ 101 by decide), trailer_Put_f, trailer_Get_f (show 8 ≤ 101 by decide), watchwordlaw0_Num.f, Option.bind_some, if_true, tb_j0 (show 8 ≤ 100 by decide)]
  unfold putTrailer
  by_cases h : TrailOk a0 a1 a2 a3
  · rw [if_pos h]
    simp only [if_true, get_trl h, beq_self_eq_true, Bool.not_true, Bool.or_false, Bool.false_eq_true, if_false]
  · rw [if_neg h, if_neg (by decide)]

end Go.Proofs.Ytkfnbnfdcfcfpaa.Pure
