/- NewerForms: for all two numbers, heads that may not be, or are of two routers, are refused by newer.Compare either way; no condition beyond the row's own. -/
import Derived.Test.YtdmnfmkeifjmlaaQ17x109
import Derived.Test.YtdmnfmkeifjmlaaL17
namespace Go.Proofs.Ytdmnfmkeifjmlaa.Pure
open Go.RowKit Go.Proofs.YtdmnfmkeifjmlaaW.PrintWords Go.Proofs.YtdmnfmkeifjmlaaW.PrintLast Go.Proofs.YtdmnfmkeifjmlaaW.PrintMore Go.Proofs.Ytdmnfmkeifjmlaa.Base Go.Proofs.Ytdmnfmkeifjmlaa.Q17 Go.Proofs.Ytdmnfmkeifjmlaa.L17
set_option linter.unusedVariables false

theorem nf_no (k : Nat) (hk : 5 ≤ k) (b0 b1 b2 b3 : Int) (h : ¬ (AckOk b0 b1 b2 b3 ∧ b0 = 2)) : watchwordlaw17_NewerForms.j0 (k + 1) 2 5 3 7 b0 b1 b2 b3 = some true := by
  have q1 : newer_Compare.f k 2 5 3 7 b0 b1 b2 b3 = some (0, 1700) := by rw [newer_Compare_f hk, if_neg (fun hh => h ⟨hh.2.1, hh.2.2.symm⟩)]
  have q2 : newer_Compare.f k b0 b1 b2 b3 2 5 3 7 = some (0, 1700) := by rw [newer_Compare_f hk, if_neg (fun hh => h ⟨hh.1, hh.2.2⟩)]
  simp only [watchwordlaw17_NewerForms.j0, q1, q2, watchwordlaw0_Num.f, Option.bind_some]
  rfl
theorem NewerForms : watchwordlaw17_NewerForms.Pure := by
  intro a0 a1 h0 h1
  refine ⟨101, ?_⟩
  simp only [watchwordlaw17_NewerForms.f, awake_ok (show 100 ≤ 101 by decide), Option.bind_some, if_true, and1023]
  obtain ⟨d, hd, d0, d1⟩ : ∃ d, d = 1 + a1 % 1024 ∧ 1 ≤ d ∧ d ≤ 1024 := ⟨_, rfl, by omega, by omega⟩
  rw [wrap_id (x := 1 + a1 % 1024) (by omega) (by omega), ← hd, wrap_id (x := 1 - d) (by omega) (by omega), wrap_id (x := 60 + d) (by omega) (by omega), wrap_id (x := -d) (by omega) (by omega), wrap_id (x := 4 + d) (by omega) (by omega), wrap_id (x := 65535 + d) (by omega) (by omega)]
  rw [nf_no 100 (by decide) 3 5 3 7 (by decide), nf_no 100 (by decide) 2 (1 - d) 3 7 (by unfold AckOk; omega), nf_no 100 (by decide) 2 5 (60 + d) 7 (by unfold AckOk; omega), nf_no 100 (by decide) 2 5 3 (-d) (by unfold AckOk; omega), nf_no 100 (by decide) (4 + d) 5 3 7 (by unfold AckOk; omega), nf_no 100 (by decide) 2 5 3 (65535 + d) (by unfold AckOk; omega)]
  simp

end Go.Proofs.Ytdmnfmkeifjmlaa.Pure
