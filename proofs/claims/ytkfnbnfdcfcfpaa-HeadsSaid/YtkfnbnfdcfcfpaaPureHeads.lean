/- Heads: for every kind, router, size and text, what head.Put and head.Get answer is what the document's own PutHead and GetHead answer; no condition beyond the row's own. -/
import Derived.Test.YtkfnbnfdcfcfpaaL8
namespace Go.Proofs.Ytkfnbnfdcfcfpaa.Pure
open Go.RowKit Go.Proofs.YtkfnbnfdcfcfpaaW.PrintWords Go.Proofs.YtkfnbnfdcfcfpaaW.PrintLast Go.Proofs.Ytkfnbnfdcfcfpaa.Base Go.Proofs.Ytkfnbnfdcfcfpaa.Q8 Go.Proofs.Ytkfnbnfdcfcfpaa.L8
set_option linter.unusedVariables false

theorem Heads : watchwordlaw8_Heads.Pure := by
  intro a0 a1 a2 a3 h0 h1 h2 h3
  refine ⟨100, ?_⟩
  simp only [watchwordlaw8_Heads.f, head_Put_f (show 1 ≤ 100 by decide), ref_PutHead_f (show 8 ≤ 100 by decide), head_Get_f (show 8 ≤ 100 by decide), ref_GetHead_f (show 8 ≤ 100 by decide), watchwordlaw0_Num.f, Option.bind_some, if_true, awake_ok (show 100 ≤ 100 by decide)]

end Go.Proofs.Ytkfnbnfdcfcfpaa.Pure
