/- NewerAges: for all two numbers, of two heads that differ in their ages alone none is newer but one of the last age over one that is not; no condition beyond the row's own. -/
import Derived.Test.YtdmnfmkeifjmlaaQ17x110
import Derived.Test.YtdmnfmkeifjmlaaL17
namespace Go.Proofs.Ytdmnfmkeifjmlaa.Pure
open Go.RowKit Go.Proofs.YtdmnfmkeifjmlaaW.PrintWords Go.Proofs.YtdmnfmkeifjmlaaW.PrintLast Go.Proofs.YtdmnfmkeifjmlaaW.PrintMore Go.Proofs.Ytdmnfmkeifjmlaa.Base Go.Proofs.Ytdmnfmkeifjmlaa.Q17 Go.Proofs.Ytdmnfmkeifjmlaa.L17
set_option linter.unusedVariables false

theorem na_mod (a : Int) : 0 ≤ wrap64 (Int.tmod (IntKind.u64.wrap a) 61) ∧ wrap64 (Int.tmod (IntKind.u64.wrap a) 61) < 61 := by
  have hw : IntKind.u64.wrap a = a % 18446744073709551616 := by simp [IntKind.wrap, IntKind.bits, IntKind.signed]
  rw [hw, Int.tmod_eq_emod_of_nonneg (by omega), wrap_id (by omega) (by omega)]
  omega
theorem NewerAges : watchwordlaw17_NewerAges.Pure := by
  intro a0 a1 h0 h1
  refine ⟨101, ?_⟩
  have m0 := na_mod a0
  have m1 := na_mod a1
  simp only [watchwordlaw17_NewerAges.f, awake_ok (show 100 ≤ 101 by decide), Option.bind_some, if_true]
  generalize wrap64 (Int.tmod (IntKind.u64.wrap a0) 61) = x at m0 ⊢
  generalize wrap64 (Int.tmod (IntKind.u64.wrap a1) 61) = y at m1 ⊢
  have hc : AckOk 1 9 x 3 ∧ AckOk 1 9 y 3 ∧ (1 : Int) = 1 := by unfold AckOk; omega
  have hv : cmp3 9 x 3 9 y 3 = gone x - gone y := by unfold cmp3; simp
  rw [show newer_Compare.f 101 1 9 x 3 1 9 y 3 = some (gone x - gone y, 0) from by rw [newer_Compare_f (by decide), if_pos hc, hv], Option.bind_some]
  simp only [watchwordlaw17_NewerAges.j0, watchwordlaw0_Num.f, Option.bind_some, if_true]
  by_cases e1 : x = 60
  · by_cases e2 : y = 60
    · subst e1; subst e2; decide
    · have h3 : y < 60 := by omega
      subst e1
      simp [h3, e2, gone]
  · have h3 : x < 60 := by omega
    by_cases e2 : y = 60
    · subst e2; simp [e1, h3, gone]
    · simp [e1, e2, gone]

end Go.Proofs.Ytdmnfmkeifjmlaa.Pure
