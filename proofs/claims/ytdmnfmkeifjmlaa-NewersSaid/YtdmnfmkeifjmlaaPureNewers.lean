/- Newers: for any two heads newer.Compare answers what the document's own Compare answers; no condition beyond the row's own. -/
import Derived.Test.YtdmnfmkeifjmlaaQ17x107
import Derived.Test.YtdmnfmkeifjmlaaL17
namespace Go.Proofs.Ytdmnfmkeifjmlaa.Pure
open Go.RowKit Go.Proofs.YtdmnfmkeifjmlaaW.PrintWords Go.Proofs.YtdmnfmkeifjmlaaW.PrintLast Go.Proofs.YtdmnfmkeifjmlaaW.PrintMore Go.Proofs.Ytdmnfmkeifjmlaa.Base Go.Proofs.Ytdmnfmkeifjmlaa.Q17 Go.Proofs.Ytdmnfmkeifjmlaa.L17
set_option linter.unusedVariables false

theorem Newers : ∀ (a0_0 : Int) (a0_1 : Int) (a0_2 : Int) (a0_3 : Int) (a1_0 : Int) (a1_1 : Int) (a1_2 : Int) (a1_3 : Int), (Lit.int .i64 a0_0).wf = true → (Lit.int .i64 a0_1).wf = true → (Lit.int .i64 a0_2).wf = true → (Lit.int .i64 a0_3).wf = true → (Lit.int .i64 a1_0).wf = true → (Lit.int .i64 a1_1).wf = true → (Lit.int .i64 a1_2).wf = true → (Lit.int .i64 a1_3).wf = true → ∃ k, watchwordlaw17_Newers.f k a0_0 a0_1 a0_2 a0_3 a1_0 a1_1 a1_2 a1_3 = some true := by
  intro a0 a1 a2 a3 b0 b1 b2 b3 _ _ _ _ _ _ _ _
  refine ⟨100, ?_⟩
  simp only [watchwordlaw17_Newers.f, newer_Compare_f (show 5 ≤ 100 by decide), ref_Compare_f (show 1 ≤ 100 by decide), watchwordlaw0_Num.f, Option.bind_some, if_true, awake_ok (show 100 ≤ 100 by decide)]

end Go.Proofs.Ytdmnfmkeifjmlaa.Pure
