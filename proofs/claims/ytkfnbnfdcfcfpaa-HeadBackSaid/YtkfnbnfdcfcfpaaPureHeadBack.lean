/- HeadBack: for every kind, router, size and whatever stands behind, the numbers of a head that head.Put gives come back from head.Get; no condition beyond the row's own. -/
import Derived.Test.YtkfnbnfdcfcfpaaQ8x4
import Derived.Test.YtkfnbnfdcfcfpaaL8
namespace Go.Proofs.Ytkfnbnfdcfcfpaa.Pure
open Go.RowKit Go.Proofs.YtkfnbnfdcfcfpaaW.PrintWords Go.Proofs.YtkfnbnfdcfcfpaaW.PrintLast Go.Proofs.Ytkfnbnfdcfcfpaa.Base Go.Proofs.Ytkfnbnfdcfcfpaa.Q8 Go.Proofs.Ytkfnbnfdcfcfpaa.L8
set_option linter.unusedVariables false

theorem HeadBack : watchwordlaw8_HeadBack.Pure := by
  intro a0 a1 a2 a3 h0 h1 h2 h3
  refine ⟨100, ?_⟩
  simp only [watchwordlaw8_HeadBack.f, awake_ok (show 100 ≤ 100 by decide), head_Put_f (show 1 ≤ 100 by decide), watchwordlaw0_Num.f, Option.bind_some, if_true]
  by_cases h : HeadOk a0 a1 a2
  · simp only [if_pos h, if_true]
    rw [if_pos (by rw [strOf_size, hdr_len]; omega), head_Get_f (show 8 ≤ 100 by decide), B_append, B_strOf (hdr_byt _ _ _), get_hdr h]
    simp only [Option.bind_some, strOf_size, hdr_len]
    simp
  · simp only [if_neg h]
    rw [if_neg (by decide), empty_list]
    rfl

end Go.Proofs.Ytkfnbnfdcfcfpaa.Pure
