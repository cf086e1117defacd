/- LastOnce: what was taken is never newer again, nor is what is less; others' are as they were; no condition beyond the row's own. -/
import Derived.Test.YtabjambabnbmnaaQ14x104
import Derived.Test.YtabjambabnbmnaaA14
import Derived.Test.YtabjambabnbmnaaO14
namespace Go.Proofs.Ytabjambabnbmnaa.Pure
open Go.RowKit Go.Proofs.YtabjambabnbmnaaW.PrintWords Go.Proofs.YtabjambabnbmnaaW.PrintLast Go.Proofs.YtabjambabnbmnaaW.PrintMore Go.Proofs.Ytabjambabnbmnaa.Base Go.Proofs.Ytabjambabnbmnaa.Q14 Go.Proofs.Ytabjambabnbmnaa.L14 Go.Proofs.Ytabjambabnbmnaa.O14
set_option linter.unusedVariables false

theorem once_f {k : Nat} {l : List S24} (hn : l.length ≤ 4398046511000) (hk : l.length + 200 < k) (x y : S24) : watchwordlaw14_LastOnce.f k l x.f0 x.f1 x.f2 x.f3 y.f0 y.f1 y.f2 y.f3 = some true := by
  obtain ⟨k, rfl⟩ : ∃ q, k = q + 1 := ⟨k - 1, by omega⟩
  unfold watchwordlaw14_LastOnce.f
  simp only [awake_ok (show 100 ≤ k + 1 by omega), Option.bind_some, if_true, last_With_f (show l.length ≤ 9223372036854775800 by omega) (show l.length + 60 < k + 1 by omega) x, watchwordlaw0_Num.f]
  by_cases h : rises lok lkey 0 l = true ∧ lok x = true
  · simp only [if_pos h, if_true]
    obtain ⟨hr, hx⟩ := h
    have hs := rises_short hr
    have hi := ins_rises hr hx (lkey_range hx).1
    have hil := ins_length (key := lkey) l x
    have n1 : last_Newer.f (k + 1) (ins lkey x l) x.f0 x.f1 x.f2 x.f3 = some (false, 0) := by
      rw [last_Newer_f (by omega) (by omega) x, if_pos ⟨hi, hx⟩]
      unfold newerOf; rw [look_ins_self hr]
      unfold newerThan; simp only; rw [decide_eq_false (by omega)]
    have n2 := last_Newer_f (show l.length ≤ 9223372036854775800 by omega) (show l.length + 60 < k + 1 by omega) y
    have n3 := last_Newer_f (show (ins lkey x l).length ≤ 9223372036854775800 by omega) (show (ins lkey x l).length + 60 < k + 1 by omega) y
    rw [n1, n2, n3]
    simp only [Option.bind_some, if_true, Bool.false_eq_true, if_false]
    by_cases hy : lok y = true
    · rw [if_pos ⟨hr, hy⟩, if_pos ⟨hi, hy⟩]
      simp only [bne_self_eq_false, watchwordlaw14_LastOnce.j0, Bool.false_eq_true, if_false, watchwordlaw0_Num.f, Option.bind_some, if_true]
      have ox := lok_iff.mp hx
      have oy := lok_iff.mp hy
      unfold LastOk at ox oy
      by_cases he : y.f0 = x.f0 ∧ y.f1 = x.f1
      · rw [if_pos he.1, if_pos he.2]
        have hk : lkey y = lkey x := by unfold lkey; rw [he.1, he.2]
        have hv : newerOf (ins lkey x l) y = newerThan y x := by unfold newerOf; rw [hk, look_ins_self hr]
        rw [hv]; unfold newerThan
        by_cases c1 : y.f2 > x.f2
        · rw [if_pos c1, decide_eq_true (.inl c1)]; rfl
        · rw [if_neg c1]
          by_cases c2 : y.f2 = x.f2
          · rw [if_pos c2]
            have : decide (y.f2 > x.f2 ∨ y.f2 = x.f2 ∧ y.f3 > x.f3) = decide (y.f3 > x.f3) := decide_eq_decide.mpr (by omega)
            rw [this]; simp
          · rw [if_neg c2, decide_eq_false (by omega)]; rfl
      · have hk : lkey y ≠ lkey x := by unfold lkey; omega
        have hv : newerOf (ins lkey x l) y = newerOf l y := by unfold newerOf; rw [look_ins_other hk]
        rw [hv]
        by_cases c0 : y.f0 = x.f0
        · rw [if_pos c0, if_neg (fun h => he ⟨c0, h⟩)]; simp
        · rw [if_neg c0]; simp
    · rw [if_neg (fun h => hy h.2), if_neg (fun h => hy h.2)]
      simp [watchwordlaw14_LastOnce.j0, watchwordlaw0_Num.f]
  · simp only [if_neg h]
    rw [if_neg (by decide)]
    rfl
theorem LastOnce : ∀ (l0 : List (S24)) (a1_0 : Int) (a1_1 : Int) (a1_2 : Int) (a1_3 : Int) (a2_0 : Int) (a2_1 : Int) (a2_2 : Int) (a2_3 : Int), (l0.length * 32 ≤ 140737488351232 ∧ l0.length ≤ maxLen ∧ ∀ y ∈ l0, R24 y) → (Lit.int .i64 a1_0).wf = true → (Lit.int .i64 a1_1).wf = true → (Lit.int .i64 a1_2).wf = true → (Lit.int .i64 a1_3).wf = true → (Lit.int .i64 a2_0).wf = true → (Lit.int .i64 a2_1).wf = true → (Lit.int .i64 a2_2).wf = true → (Lit.int .i64 a2_3).wf = true → ∃ k, watchwordlaw14_LastOnce.f k l0 a1_0 a1_1 a1_2 a1_3 a2_0 a2_1 a2_2 a2_3 = some true := by
  intro l0 a1_0 a1_1 a1_2 a1_3 a2_0 a2_1 a2_2 a2_3 hl _ _ _ _ _ _ _ _
  exact ⟨l0.length + 201, once_f (by omega) (by omega) ⟨a1_0, a1_1, a1_2, a1_3⟩ ⟨a2_0, a2_1, a2_2, a2_3⟩⟩

end Go.Proofs.Ytabjambabnbmnaa.Pure
