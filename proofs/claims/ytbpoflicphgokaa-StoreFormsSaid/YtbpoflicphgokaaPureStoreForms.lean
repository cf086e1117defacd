/- StoreForms: stores and Lsas that may not be; no condition beyond the row's own. -/
import Derived.Test.YtbpoflicphgokaaQ18x107
import Derived.Test.YtbpoflicphgokaaZ18x4
namespace Go.Proofs.Ytbpoflicphgokaa.Pure
open Go.RowKit Go.Proofs.YtbpoflicphgokaaW.PrintWords Go.Proofs.YtbpoflicphgokaaW.PrintMore Go.Proofs.Ytbpoflicphgokaa.Base Go.Proofs.Ytbpoflicphgokaa.Q18 Go.Proofs.Ytbpoflicphgokaa.L18
set_option linter.unusedVariables false
set_option linter.unusedSimpArgs false
def sfBads : List (List S32) := [[⟨0, 0, 0, []⟩], [⟨3, 6, 0, []⟩, ⟨1, 5, 0, []⟩], [⟨1, 5, 0, []⟩, ⟨1, 5, 0, []⟩], [⟨1, 5, 0, []⟩, ⟨2, 1, 60, []⟩], [⟨1, 5, 0, [⟨1, 1⟩]⟩]]
theorem sf_none : ∀ i : Nat, i < 5 → St (rd_L5 sfBads (i : Int)) = false ∧ (rd_L5 sfBads (i : Int)).length ≤ 2 ∧ ∀ x ∈ rd_L5 sfBads (i : Int), x.f3.length < 2 := by
  intro i hi
  obtain rfl | rfl | rfl | rfl | rfl : i = 0 ∨ i = 1 ∨ i = 2 ∨ i = 3 ∨ i = 4 := by omega
  all_goals clear hi
  · exact ⟨by decide +kernel, by decide, by intro x hx; simp [sfBads, rd_L5] at hx; subst hx; decide⟩
  · exact ⟨by decide +kernel, by decide, by intro x hx; simp [sfBads, rd_L5] at hx; rcases hx with rfl | rfl <;> decide⟩
  · exact ⟨by decide +kernel, by decide, by intro x hx; simp [sfBads, rd_L5] at hx; subst hx; decide⟩
  · exact ⟨by decide +kernel, by decide, by intro x hx; simp [sfBads, rd_L5] at hx; rcases hx with rfl | rfl <;> decide⟩
  · exact ⟨by decide +kernel, by decide, by intro x hx; simp [sfBads, rd_L5] at hx; subst hx; decide⟩
theorem sf_len : sfBads.length = 5 := rfl
theorem core {k : Nat} (hk : 300 ≤ k) (a0 : Int) : watchwordlaw18_StoreForms.f k a0 = some true := by
  have hm := modq a0 5 (by omega)
  unfold watchwordlaw18_StoreForms.f
  rw [awake_ok (by omega)]
  generalize wrap64 (Int.tmod (IntKind.u64.wrap a0) 5) = j at hm ⊢
  obtain ⟨i, rfl⟩ : ∃ i : Nat, j = (i : Int) := ⟨j.toNat, by omega⟩
  obtain ⟨b1, b2, b3⟩ := sf_none i (by omega)
  simp only [Option.bind_some, if_true]
  have e : ([[(⟨0, 0, 0, []⟩ : S32)], [⟨3, 6, 0, []⟩, ⟨1, 5, 0, []⟩], [⟨1, 5, 0, []⟩, ⟨1, 5, 0, []⟩], [⟨1, 5, 0, []⟩, ⟨2, 1, 60, []⟩], [⟨1, 5, 0, [⟨1, 1⟩]⟩]] : List (List S32)) = sfBads := rfl
  rw [e, if_pos (by omega), if_pos (by rw [sf_len]; omega)]
  have b1' : St (rd_L5 sfBads (i : Int)) = false := b1
  have b2' : (rd_L5 sfBads (i : Int)).length ≤ 2 := b2
  have b3' : ∀ x ∈ rd_L5 sfBads (i : Int), x.f3.length < 2 := b3
  generalize rd_L5 sfBads (i : Int) = c at b1' b2' b3'
  rw [With_bad (M := 2) (by omega) b3' (by omega) (by omega) (by decide) (by simp; omega) (by omega) (fun z => by rw [b1'] at z; exact absurd z.1 (by decide))]
  simp only [Option.bind_some]
  rw [Find_bad (M := 2) (by omega) b3' (by omega) (by omega) b1' 1]
  simp only [Option.bind_some]
  rw [Older_bad (M := 2) (by omega) b3' (by omega) (by omega) b1']
  simp only [Option.bind_some]
  rw [With_bad (M := 2) (by decide) (fun x hx => by simp at hx; subst hx; decide) (by omega) (by simp; omega) (by decide) (by simp; omega) (by omega) (fun z => by have := z.2.2.2.1; omega)]
  simp only [Option.bind_some]
  rw [May_f (M := 2) (by omega) b3' (by omega) (by omega), b1']
  simp only [Option.bind_some, num_f]
  rw [may_st (show St [(⟨1, 5, 0, []⟩ : S32), ⟨3, 6, 0, []⟩] = true by decide +kernel) (by omega)]
  simp
theorem StoreForms : ∀ (a0 : Int), (Lit.int .i64 a0).wf = true → ∃ k, watchwordlaw18_StoreForms.f k a0 = some true := by
  intro a0 _
  obtain ⟨k, hk⟩ : ∃ k : Nat, 300 ≤ k := ⟨300, Nat.le_refl _⟩
  exact ⟨k, core hk a0⟩
end Go.Proofs.Ytbpoflicphgokaa.Pure
