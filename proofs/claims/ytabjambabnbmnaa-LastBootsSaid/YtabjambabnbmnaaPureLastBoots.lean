/- LastBoots: behind a new boot all numbers of it are newer, none of the old one is; no condition beyond the row's own. -/
import Derived.Test.YtabjambabnbmnaaQ14x107
import Derived.Test.YtabjambabnbmnaaA14
namespace Go.Proofs.Ytabjambabnbmnaa.Pure
open Go.RowKit Go.Proofs.YtabjambabnbmnaaW.PrintWords Go.Proofs.YtabjambabnbmnaaW.PrintLast Go.Proofs.YtabjambabnbmnaaW.PrintMore Go.Proofs.Ytabjambabnbmnaa.Base Go.Proofs.Ytabjambabnbmnaa.Q14 Go.Proofs.Ytabjambabnbmnaa.L14
set_option linter.unusedVariables false

theorem LastBoots : watchwordlaw14_LastBoots.Pure := by
  intro a0 a1 a2 _ _ _
  refine ⟨200, ?_⟩
  have hb0 := Int.emod_nonneg a0 (show (4096 : Int) ≠ 0 by decide)
  have hb1 := Int.emod_lt_of_pos a0 (show (0 : Int) < 4096 by decide)
  have hc0 := Int.emod_nonneg a1 (show (4096 : Int) ≠ 0 by decide)
  have hc1 := Int.emod_lt_of_pos a1 (show (0 : Int) < 4096 by decide)
  have ho0 := Int.emod_nonneg a2 (show (4096 : Int) ≠ 0 by decide)
  have ho1 := Int.emod_lt_of_pos a2 (show (0 : Int) < 4096 by decide)
  unfold watchwordlaw14_LastBoots.f
  rw [and4095 a0, and4095 a1, and4095 a2]
  generalize a0 % 4096 = b at hb0 hb1 ⊢
  generalize a1 % 4096 = c at hc0 hc1 ⊢
  generalize a2 % 4096 = o at ho0 ho1 ⊢
  have w1 : wrap64 (1 + b) = 1 + b := wrap_id (by omega) (by omega)
  have w2 : wrap64 (1 + c) = 1 + c := wrap_id (by omega) (by omega)
  have w3 : wrap64 (1 + o) = 1 + o := wrap_id (by omega) (by omega)
  have w4 : wrap64 (1 + b + 1) = 1 + b + 1 := wrap_id (by omega) (by omega)
  have w5 : wrap64 (1 + b + 2) = 1 + b + 2 := wrap_id (by omega) (by omega)
  rw [w1, w2, w3, w4, w5]
  clear w1 w2 w3 w4 w5
  have oky : LastOk (⟨1, 1, 1 + b + 1, 1⟩ : S24) := lastOk_mk (by omega)
  have h1 : last_With.f 200 [] 1 1 (1 + b + 1) 1 = some ([⟨1, 1, 1 + b + 1, 1⟩], 0) := with_nil (by decide) oky
  have h2 : last_Newer.f 200 [⟨1, 1, 1 + b + 1, 1⟩] 1 1 (1 + b) (1 + c) = some (false, 0) := by
    rw [newer_one_f (by decide) oky (x := ⟨1, 1, 1 + b, 1 + c⟩) (lastOk_mk (by omega)), if_pos (by rfl)]
    unfold newerThan; simp only; rw [decide_eq_false (by omega)]
  have h3 : last_Newer.f 200 [⟨1, 1, 1 + b + 1, 1⟩] 1 1 (1 + b + 1) (1 + o) = some (decide (1 + o > 1), 0) := by
    rw [newer_one_f (by decide) oky (x := ⟨1, 1, 1 + b + 1, 1 + o⟩) (lastOk_mk (by omega)), if_pos (by rfl)]
    have hd : newerThan (⟨1, 1, 1 + b + 1, 1 + o⟩ : S24) ⟨1, 1, 1 + b + 1, 1⟩ = decide (1 + o > 1) := by
      show decide ((1 + b + 1 : Int) > 1 + b + 1 ∨ (1 + b + 1 : Int) = 1 + b + 1 ∧ 1 + o > 1) = decide (1 + o > 1)
      exact decide_eq_decide.mpr (by omega)
    rw [hd]
  have h4 : last_Newer.f 200 [⟨1, 1, 1 + b + 1, 1⟩] 1 1 (1 + b + 2) 1 = some (true, 0) := by
    rw [newer_one_f (by decide) oky (x := ⟨1, 1, 1 + b + 2, 1⟩) (lastOk_mk (by omega)), if_pos (by rfl)]
    unfold newerThan; simp only; rw [decide_eq_true (by omega)]
  have h5 : last_Newer.f 200 [⟨1, 1, 1 + b + 1, 1⟩] 1 5 (1 + b) (1 + c) = some (true, 0) := by
    rw [newer_one_f (by decide) oky (x := ⟨1, 5, 1 + b, 1 + c⟩) (lastOk_mk (by omega)), if_neg (by unfold lkey; simp only; omega)]
  simp only [awake_ok (show 100 ≤ 200 by decide), h1, h2, h3, h4, h5, Option.bind_some, watchwordlaw0_Num.f, if_true, Bool.false_eq_true, if_false, beq_self_eq_true]

end Go.Proofs.Ytabjambabnbmnaa.Pure
