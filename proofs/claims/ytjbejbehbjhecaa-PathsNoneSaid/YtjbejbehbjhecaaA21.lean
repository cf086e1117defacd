/- Paths: awake. -/
import Derived.Test.YtjbejbehbjhecaaR21
import Derived.Test.YtjbejbehbjhecaaQ21x118
namespace Go.Proofs.Ytjbejbehbjhecaa.L21
open Go.RowKit Go.Proofs.YtjbejbehbjhecaaW.PrintWords Go.Proofs.YtjbejbehbjhecaaW.PrintMore Go.Proofs.Ytjbejbehbjhecaa.Base Go.Proofs.Ytjbejbehbjhecaa.Q21
set_option linter.unusedVariables false
set_option maxRecDepth 100000
theorem Routes_c (k : Nat) (c0 c1 c2 c3 c4 c5 c6 c7 c8 c9 c10 c11 c12 c13 c14 c15 a : Int) : paths_Routes.f (k + 200) c0 c1 c2 c3 c4 c5 c6 c7 c8 c9 c10 c11 c12 c13 c14 c15 a = some (ans (mk c0 c1 c2 c3 c4 c5 c6 c7 c8 c9 c10 c11 c12 c13 c14 c15) a) := Routes_f k (mk c0 c1 c2 c3 c4 c5 c6 c7 c8 c9 c10 c11 c12 c13 c14 c15) a
theorem awake_f : watchwordlaw21_awake.f 200 = some true := by
  unfold watchwordlaw21_awake.f
  rw [Routes_c 0, Routes_c 0]
  have e1 : ans (mk 0 5 2 0 5 0 3 0 2 3 0 0 0 0 0 0) 1 = ([⟨2, 5, [2, 3]⟩, ⟨3, 2, [3]⟩], 0) := by kernel_rfl
  have e2 : ans (mk 0 5 2 0 5 0 3 0 2 3 0 0 0 0 0 0) 5 = ([], 2100) := by kernel_rfl
  rw [e1, e2]
  decide +kernel
theorem awake_ok {k : Nat} (hk : 200 ≤ k) : watchwordlaw21_awake.f k = some true := at_rounds (g := fun k => watchwordlaw21_awake.f k) watchwordlaw21_awake.mono hk awake_f
theorem num_ok : watchwordlaw0_Num.f 0 = some 0 := by decide +kernel
theorem num_bad : watchwordlaw0_Num.f 2100 = some 2100 := by decide +kernel
theorem ans_bad {c : Mat} {a : Int} (h : ¬ (okM c = true ∧ 1 ≤ a ∧ a ≤ 4)) : ans c a = ([], 2100) := by unfold ans; rw [if_neg h]
end Go.Proofs.Ytjbejbehbjhecaa.L21
