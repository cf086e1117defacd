/- NewerLsas: of two Lsas of one router, told by their own heads, one is newer unless they are the same but for their ages; no condition beyond the row's own. -/
import Derived.Test.YtdmnfmkeifjmlaaQ17x111
import Derived.Test.YtdmnfmkeifjmlaaL17
import Derived.Test.YtdmnfmkeifjmlaaR17
import Derived.Test.YtdmnfmkeifjmlaaO17
namespace Go.Proofs.Ytdmnfmkeifjmlaa.Pure
open Go.RowKit Go.Proofs.YtdmnfmkeifjmlaaW.PrintWords Go.Proofs.YtdmnfmkeifjmlaaW.PrintLast Go.Proofs.YtdmnfmkeifjmlaaW.PrintMore Go.Proofs.Ytdmnfmkeifjmlaa.Base Go.Proofs.Ytdmnfmkeifjmlaa.Q17 Go.Proofs.Ytdmnfmkeifjmlaa.L17 Go.Proofs.Ytdmnfmkeifjmlaa.O17
set_option linter.unusedVariables false

theorem nl_gone (g g' : Int) : (((gone g - gone g' : Int)) == 0) = ((g == 60) == (g' == 60)) := by
  unfold gone
  by_cases h : g = 60
  · by_cases h' : g' = 60
    · rw [if_pos h, if_pos h', h, h']; rfl
    · rw [if_pos h, if_neg h', h, show (g' == 60) = false from beq_eq_false_iff_ne.mpr h']; rfl
  · by_cases h' : g' = 60
    · rw [if_neg h, if_pos h', h', show (g == 60) = false from beq_eq_false_iff_ne.mpr h]; rfl
    · rw [if_neg h, if_neg h', show (g == 60) = false from beq_eq_false_iff_ne.mpr h, show (g' == 60) = false from beq_eq_false_iff_ne.mpr h']; rfl
theorem nl_sgn {a b : Int} (h : a ≠ b) : sgn a b = 1 ∨ sgn a b = -1 := by
  unfold sgn
  by_cases h1 : a < b
  · rw [if_pos h1]; exact .inr rfl
  · rw [if_neg h1, if_pos (by omega)]; exact .inl rfl
theorem nl_one {x : Int} (h : x = 1 ∨ x = -1) : (if x = 1 then (some true) else (some (x == (-1)))) = some true := by
  rcases h with rfl | rfl <;> decide
theorem nl_head {r s g : Int} {l : List S72} (h : R17.LsaOk r s g l) : AckOk r s g (R17.flSum (R17.bodyB r s l)) := by
  have := R17.flSum_range (R17.bodyB r s l)
  exact ⟨h.1, h.2.1, h.2.2.1, h.2.2.2.1, h.2.2.2.2.1, h.2.2.2.2.2.1, this.1, by omega⟩
theorem NewerLsas : ∀ (a0_0 : Int) (a0_1 : Int) (a0_2 : Int) (l0_3 : List (S72)) (a1_0 : Int) (a1_1 : Int) (a1_2 : Int) (l1_3 : List (S72)), (Lit.int .i64 a0_0).wf = true → (Lit.int .i64 a0_1).wf = true → (Lit.int .i64 a0_2).wf = true → (l0_3.length * 16 ≤ 140737488351232 ∧ l0_3.length ≤ maxLen ∧ ∀ y ∈ l0_3, R72 y) → (Lit.int .i64 a1_0).wf = true → (Lit.int .i64 a1_1).wf = true → (Lit.int .i64 a1_2).wf = true → (l1_3.length * 16 ≤ 140737488351232 ∧ l1_3.length ≤ maxLen ∧ ∀ y ∈ l1_3, R72 y) → ∃ k, watchwordlaw17_NewerLsas.f k a0_0 a0_1 a0_2 l0_3 a1_0 a1_1 a1_2 l1_3 = some true := by
  intro r s g l r1 s' g' l' _ _ _ hl _ _ _ hl'
  refine ⟨l.length + l'.length + 201, ?_⟩
  generalize hk : l.length + l'.length + 201 = k0
  obtain ⟨k, rfl⟩ : ∃ q, k0 = q + 1 := ⟨k0 - 1, by omega⟩
  have hn : l.length ≤ 9223372036854775807 := by omega
  have hn' : l'.length ≤ 9223372036854775807 := by omega
  have h1 : l.length + 10 < k + 1 := by omega
  have h2 : l'.length + 10 < k + 1 := by omega
  have h3 : 30 ≤ k + 1 := by omega
  have h4 : 100 ≤ k + 1 := by omega
  have h5 : 5 ≤ k := by omega
  clear hl hl' hk
  simp only [watchwordlaw17_NewerLsas.f, awake_ok h4, R17.ref_Head_f hn h1 h3, R17.ref_Head_f hn' h2 h3, Option.bind_some, if_true]
  by_cases h : R17.LsaOk r s g l
  · by_cases h' : R17.LsaOk r s' g' l'
    · rw [if_pos h, if_pos h', if_pos rfl, show ((((r, s', g', R17.flSum (R17.bodyB r s' l'), (0 : Int)).2.2.2.2 : Int) != 0) : Bool) = false from rfl]
      simp only [watchwordlaw17_NewerLsas.j0, Bool.false_eq_true, if_false]
      rw [newer_Compare_f h5, if_pos ⟨nl_head h, nl_head h', rfl⟩]
      generalize R17.flSum (R17.bodyB r s l) = m
      generalize R17.flSum (R17.bodyB r s' l') = m'
      simp only [watchwordlaw0_Num.f, Option.bind_some, if_true]
      by_cases c1 : s = s'
      · rw [if_pos c1]
        by_cases c2 : m = m'
        · rw [if_pos c2]
          have : cmp3 s g m s' g' m' = gone g - gone g' := by unfold cmp3; rw [if_neg (by simp [c1]), if_neg (by simp [c2])]
          rw [this, nl_gone, beq_self_eq_true]
        · rw [if_neg c2]
          have : cmp3 s g m s' g' m' = sgn m m' := by unfold cmp3; rw [if_neg (by simp [c1]), if_pos c2]
          rw [this]; exact nl_one (nl_sgn c2)
      · rw [if_neg c1]
        have : cmp3 s g m s' g' m' = sgn s s' := by unfold cmp3; rw [if_pos c1]
        rw [this]; exact nl_one (nl_sgn c1)
    · rw [if_pos h, if_neg h', if_pos rfl, show ((((0, 0, 0, 0, (700 : Int)) : Int × Int × Int × Int × Int).2.2.2.2 != 0) : Bool) = true from rfl]
      simp only [watchwordlaw17_NewerLsas.j0, if_true]
  · rw [if_neg h, if_neg (show ¬ (((0, 0, 0, 0, (700 : Int)) : Int × Int × Int × Int × Int).2.2.2.2 = 0) by decide)]
    simp only [watchwordlaw17_NewerLsas.j0, if_true]

end Go.Proofs.Ytdmnfmkeifjmlaa.Pure
