/- LastForms: numbers, lists that may not be, are told; no condition beyond the row's own. -/
import Derived.Test.YtabjambabnbmnaaQ14x105
import Derived.Test.YtabjambabnbmnaaA14
namespace Go.Proofs.Ytabjambabnbmnaa.Pure
open Go.RowKit Go.Proofs.YtabjambabnbmnaaW.PrintWords Go.Proofs.YtabjambabnbmnaaW.PrintLast Go.Proofs.YtabjambabnbmnaaW.PrintMore Go.Proofs.Ytabjambabnbmnaa.Base Go.Proofs.Ytabjambabnbmnaa.Q14 Go.Proofs.Ytabjambabnbmnaa.L14
set_option linter.unusedVariables false

theorem forms_j0 {b : S24} (hb : ¬ LastOk b) : watchwordlaw14_LastForms.j0 200 2 4 1 1 b.f0 b.f1 b.f2 b.f3 = some true := by
  have hl : lok b = false := by cases h : lok b with | false => rfl | true => exact absurd (lok_iff.mp h) hb
  have r1 : ¬ (rises lok lkey 0 ([] : List S24) = true ∧ lok b = true) := by rw [hl]; simp
  have r2 : rises lok lkey 0 [b] = false := by
    cases h : rises lok lkey 0 [b] with
    | false => rfl
    | true => have := (rises_cons.mp h).1.1; rw [hl] at this; cases this
  have h1 : last_Newer.f 199 [] b.f0 b.f1 b.f2 b.f3 = some (false, 1400) := by rw [last_Newer_f (by decide) (by decide) b, if_neg r1]
  have h2 : last_With.f 199 [b] 2 4 1 1 = some ([], 1400) := by
    have := last_With_f (l := [b]) (by simp) (k := 199) (by simp) ⟨2, 4, 1, 1⟩
    rw [if_neg (by rw [r2]; simp)] at this; exact this
  have h3 : last_With.f 199 [] b.f0 b.f1 b.f2 b.f3 = some ([], 1400) := by rw [last_With_f (by decide) (by decide) b, if_neg r1]
  have h4 : last_Newer.f 199 [⟨2, 4, 1, 1⟩, ⟨2, 1, 1, 1⟩] 2 4 1 1 = some (false, 1400) := by
    have := last_Newer_f (l := [⟨2, 4, 1, 1⟩, ⟨2, 1, 1, 1⟩]) (by decide) (k := 199) (by decide) ⟨2, 4, 1, 1⟩
    rw [if_neg (by decide)] at this; exact this
  have h5 : last_With.f 199 [⟨2, 4, 1, 1⟩, ⟨2, 4, 1, 1⟩] 2 4 1 1 = some ([], 1400) := by
    have := last_With_f (l := [⟨2, 4, 1, 1⟩, ⟨2, 4, 1, 1⟩]) (by decide) (k := 199) (by decide) ⟨2, 4, 1, 1⟩
    rw [if_neg (by decide)] at this; exact this
  have h6 : last_May.f 199 [b] = some false := by rw [last_May_f (by simp) (by simp), r2]
  have h7 : last_May.f 199 [⟨2, 4, 1, 1⟩, ⟨2, 1, 1, 1⟩] = some false := by rw [last_May_f (by decide) (by decide)]; decide
  have h8 : last_May.f 199 [⟨2, 1, 1, 1⟩, ⟨2, 4, 1, 1⟩] = some true := by rw [last_May_f (by decide) (by decide)]; decide
  have hb' : (⟨b.f0, b.f1, b.f2, b.f3⟩ : S24) = b := rfl
  show watchwordlaw14_LastForms.j0 (199 + 1) 2 4 1 1 b.f0 b.f1 b.f2 b.f3 = some true
  simp only [watchwordlaw14_LastForms.j0, hb', h1, h2, h3, h4, h5, h6, h7, h8, Option.bind_some, watchwordlaw0_Num.f, if_true, Bool.false_eq_true, if_false, beq_self_eq_true]
theorem LastForms : watchwordlaw14_LastForms.Pure := by
  intro a0 a1 _ _
  refine ⟨200, ?_⟩
  have hd0 := Int.emod_nonneg a1 (show (1024 : Int) ≠ 0 by decide)
  have hd1 := Int.emod_lt_of_pos a1 (show (0 : Int) < 1024 by decide)
  unfold watchwordlaw14_LastForms.f
  rw [and1023 a1]
  generalize a1 % 1024 = d at hd0 hd1 ⊢
  generalize Int.tmod (IntKind.u64.wrap a0) 8 = q
  have w1 : wrap64 (1 + d) = 1 + d := wrap_id (by omega) (by omega)
  have w2 : wrap64 (1 - (1 + d)) = 1 - (1 + d) := wrap_id (by omega) (by omega)
  have w3 : wrap64 (4 + (1 + d)) = 4 + (1 + d) := wrap_id (by omega) (by omega)
  have w4 : wrap64 (5 + (1 + d)) = 5 + (1 + d) := wrap_id (by omega) (by omega)
  have w5 : wrap64 (4294967295 + (1 + d)) = 4294967295 + (1 + d) := wrap_id (by omega) (by omega)
  rw [w1, w2, w3, w4, w5, awake_ok (show 100 ≤ 200 by decide)]
  clear w1 w2 w3 w4 w5
  simp only [Option.bind_some, if_true]
  have F : ∀ b : S24, ¬ LastOk b → watchwordlaw14_LastForms.j0 200 2 4 1 1 b.f0 b.f1 b.f2 b.f3 = some true := fun b h => forms_j0 h
  split
  · exact F ⟨1 - (1 + d), 4, 1, 1⟩ (lastNo_mk (by omega))
  split
  · exact F ⟨4 + (1 + d), 4, 1, 1⟩ (lastNo_mk (by omega))
  split
  · exact F ⟨2, 2, 1, 1⟩ (lastNo_mk (by omega))
  split
  · exact F ⟨2, 5 + (1 + d), 1, 1⟩ (lastNo_mk (by omega))
  split
  · exact F ⟨2, 4, 1 - (1 + d), 1⟩ (lastNo_mk (by omega))
  split
  · exact F ⟨2, 4, 4294967295 + (1 + d), 1⟩ (lastNo_mk (by omega))
  split
  · exact F ⟨2, 4, 1, 1 - (1 + d)⟩ (lastNo_mk (by omega))
  · exact F ⟨2, 4, 1, 4294967295 + (1 + d)⟩ (lastNo_mk (by omega))

end Go.Proofs.Ytabjambabnbmnaa.Pure
