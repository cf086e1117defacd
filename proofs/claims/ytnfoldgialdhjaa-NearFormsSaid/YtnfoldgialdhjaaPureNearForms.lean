/- NearForms: lists, routers that may not be, are told; no condition beyond the row's own. -/
import Derived.Test.YtnfoldgialdhjaaQ19x105
import Derived.Test.YtnfoldgialdhjaaA19
namespace Go.Proofs.Ytnfoldgialdhjaa.Pure
open Go.RowKit Go.Proofs.YtnfoldgialdhjaaW.PrintWords Go.Proofs.YtnfoldgialdhjaaW.PrintLast Go.Proofs.YtnfoldgialdhjaaW.PrintMore Go.Proofs.Ytnfoldgialdhjaa.Base Go.Proofs.Ytnfoldgialdhjaa.Q19 Go.Proofs.Ytnfoldgialdhjaa.L19
set_option linter.unusedVariables false

theorem forms_j0 {b : S46} {d : Int} (hd : 1 ≤ d ∧ d ≤ 1024) (hb : ¬ NearOk b) : watchwordlaw19_NearForms.j0 200 d 2 1 3 b.f0 b.f1 b.f2 = some true := by
  have r2 := rises_no hb
  have w1 : wrap64 (4 + d) = 4 + d := wrap_id (by omega) (by omega)
  have h1 : near_Heard.f 199 [b] 1 true = some ([], false, 1900) := by rw [near_Heard_f (by simp) (by simp), if_neg (by rw [r2]; simp)]
  have h2 : near_Tick.f 199 [b] = some ([], [], 1900) := by rw [near_Tick_f (by simp) (by simp), if_neg (by rw [r2]; simp)]
  have h3 : near_Heard.f 199 [⟨2, 1, 3⟩, ⟨2, 1, 3⟩] 1 true = some ([], false, 1900) := by rw [near_Heard_f (by simp) (by simp), if_neg (by decide)]
  have h4 : near_Heard.f 199 [] (4 + d) true = some ([], false, 1900) := by rw [near_Heard_f (by simp) (by simp), if_neg (by omega)]
  have h5 : near_May.f 199 [b] = some false := by rw [near_May_f (by simp) (by simp), r2]
  have h6 : near_May.f 199 [⟨2, 1, 3⟩] = some true := by rw [near_May_f (by simp) (by simp)]; decide
  have h7 : near_Full.f 199 [b] = some [] := by rw [near_Full_f (by simp) (by simp)]; unfold fullOf; rw [r2]; rfl
  have hb' : (⟨b.f0, b.f1, b.f2⟩ : S46) = b := rfl
  show watchwordlaw19_NearForms.j0 (199 + 1) d 2 1 3 b.f0 b.f1 b.f2 = some true
  simp only [watchwordlaw19_NearForms.j0, hb', h1, h2, h3, w1, h4, h5, h6, h7, Option.bind_some, watchwordlaw0_Num.f, if_true, Bool.false_eq_true, if_false, beq_self_eq_true, List.length_nil]
  rfl
theorem NearForms : watchwordlaw19_NearForms.Pure := by
  intro a0 a1 _ _
  refine ⟨200, ?_⟩
  have hd0 := Int.emod_nonneg a1 (show (1024 : Int) ≠ 0 by decide)
  have hd1 := Int.emod_lt_of_pos a1 (show (0 : Int) < 1024 by decide)
  unfold watchwordlaw19_NearForms.f
  rw [and1023 a1]
  generalize a1 % 1024 = d at hd0 hd1 ⊢
  generalize Int.tmod (IntKind.u64.wrap a0) 6 = q
  have w1 : wrap64 (1 + d) = 1 + d := wrap_id (by omega) (by omega)
  have w2 : wrap64 (1 - (1 + d)) = 1 - (1 + d) := wrap_id (by omega) (by omega)
  have w3 : wrap64 (4 + (1 + d)) = 4 + (1 + d) := wrap_id (by omega) (by omega)
  have w4 : wrap64 (2 + (1 + d)) = 2 + (1 + d) := wrap_id (by omega) (by omega)
  have w5 : wrap64 (16 + (1 + d)) = 16 + (1 + d) := wrap_id (by omega) (by omega)
  rw [w1, w2, w3, w4, w5, awake_ok (show 100 ≤ 200 by decide)]
  clear w1 w2 w3 w4 w5
  simp only [Option.bind_some, if_true]
  have F : ∀ b : S46, ¬ NearOk b → watchwordlaw19_NearForms.j0 200 (1 + d) 2 1 3 b.f0 b.f1 b.f2 = some true := fun b h => forms_j0 (by omega) h
  split
  · exact F ⟨1 - (1 + d), 1, 3⟩ (nearNo_mk (by omega))
  split
  · exact F ⟨4 + (1 + d), 1, 3⟩ (nearNo_mk (by omega))
  split
  · exact F ⟨2, 0, 3⟩ (nearNo_mk (by omega))
  split
  · exact F ⟨2, 2 + (1 + d), 3⟩ (nearNo_mk (by omega))
  split
  · exact F ⟨2, 1, 1 - (1 + d)⟩ (nearNo_mk (by omega))
  · exact F ⟨2, 1, 16 + (1 + d)⟩ (nearNo_mk (by omega))

end Go.Proofs.Ytnfoldgialdhjaa.Pure
